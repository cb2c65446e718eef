/- A drawn law returns true for every code (its row lists package variables, tied by the card): part 23. -/
import Derived.Test.YtclcgjhhehbdeaaGreatDoorPar
import Derived.Test.YtclcgjhhehbdeaaGreatDoorPat
set_option maxHeartbeats 20000000
set_option maxRecDepth 100000
set_option linter.all false
namespace Go.Proofs.YtclcgjhhehbdeaaGreatDoor
namespace GL
def LN (s:ByteArray) (k:Nat):Bool:=decide (bL s k<97)||decide (bL s k>122)
def nmF:Nat→ByteArray→Nat→Bool
 |0,_,_=>true
 |f+1,s,k=>bif LN s k then false else nmF f s (k+1)
def fB (s:ByteArray):Bool:=nmF s.size s 0&&ig s.size 1 4
theorem agB {f:Nat}{s:ByteArray}{k:Nat}(h:LN s k=true):nmF (f+1) s k=false:=by rw [nmF,h];rfl
theorem aiR {f:Nat}{s:ByteArray}{k:Nat}(h:LN s k=false):nmF (f+1) s k=nmF f s (k+1):=by rw [nmF,h];rfl
theorem SK {s:ByteArray}(h:nmF s.size s 0=false):fB s=false:=by unfold fB;rw [h];rfl
theorem adr {s:ByteArray}(h:nmF s.size s 0=true):fB s=ig s.size 1 4:=by unfold fB;rw [h];rfl
def mL (s:ByteArray):Prop:=s.size≤1000000
def kE (s:ByteArray):AV:=.s (.q (fB s))
def abm (s:ByteArray):List AV:=[]
def oc:cn where
 A:=[.s .str]
 B:=[]
 pre:=fun x b=>mL x
 r:=fun x b _=>kE x
 o:=fun x b _=>abm x
theorem zH:Has Tryz.prog 163 oc:=by
 refine Has.fl zT zF zF (l:=[(40,gZ)]) ⟨iy,aa⟩ Tryz.func163 ?_
 rintro (s:ByteArray) _ (hp:mL s)
 show vc _ _ _ _ (entry [.str s] []) _
 unfold mL at hp
 refine cN (l:=[(40,gZ)]) (ex:=zT) (wr:=zF) (pt:=zF) ⟨iy,aa⟩ [.s 0] (fun y:Nat×Nat=>[(.s 3,.int y.1)]) (fun y=>y.1+y.2=s.size∧nmF y.2 s y.1=nmF s.size s 0) (fun y=>y.2) (0,s.size) [] ⟨ZA6 _,rfl⟩ dL ?_
 rintro⟨k,f⟩ ⟨(hk:k+f=s.size),(he:nmF f s k=nmF s.size s 0)⟩
 have hb:=xa s k
 have bU:decide ((k:Int)<s.size)=true→∃g,f=g+1:=fun h=>⟨f-1,by have:=aJ h;omega⟩
 refine⟨fun w1=>⟨⟨?_,?_⟩,aa,fun w2=>?_,fun w3=>⟨⟨?_,?_⟩,fun w4=>?_,fun w5=>⟨⟨?_,?_⟩,?_⟩⟩⟩,fun w6=>⟨⟨tv4,aa⟩,fun x7 w8=>?_⟩⟩
 all_goals first|refine aw ?_|refine ax ?_|exact a8|exact a7|skip
 ·obtain⟨g,rfl⟩:=bU w1
  have e:fB s=false:=SK (by rw [←he];exact agB (by unfold LN;rw [show decide (bL s k<97)=true from w2];rfl))
  refine⟨[],[],_,_,_,rfl,az,(),aa,?_,?_,rfl⟩
  ·(show _=kE s);unfold kE;first|(rw [e];rfl)|rfl
  ·rfl
 ·obtain⟨g,rfl⟩:=bU w1
  have e:fB s=false:=SK (by rw [←he];exact agB (by unfold LN;rw [show decide (bL s k>122)=true from w4,ZC4]))
  refine⟨[],[],_,_,_,rfl,az,(),aa,?_,?_,rfl⟩
  ·(show _=kE s);unfold kE;first|(rw [e];rfl)|rfl
  ·rfl
 ·obtain⟨g,rfl⟩:=bU w1
  refine⟨(k+1,g),[],?_,?_,?_⟩
  rotate_right
  ·exact bV
  ·exact⟨by show k+1+g=s.size;omega,by rw [←he];exact (aiR (by unfold LN;rw [show decide (bL s k<97)=false from w3,show decide (bL s k>122)=false from w5];rfl)).symm⟩
  ·exact ZD9 g
 ·have hf:f=0:=by have:=aA (p:=(k:Int)<s.size) w6;omega
  subst hf
  have e:fB s=ig s.size 1 4:=adr (by rw [←he];rfl)
  refine⟨[],[],_,_,_,rfl,az,(),aa,?_,?_,rfl⟩
  ·(show _=kE s);unfold kE;first|(rw [e];rfl)|rfl
  ·rfl
def kb (l:List eS) (i:Nat):Bool:= !(fB (nth aK l i).1)||(!(ig (nth aK l i).2 1 15)||(decide ((i:Int)>0)&& !(Op.bytesLess (nth aK l ((i:Int)-1).toNat).1.toList (nth aK l i).1.toList)))
def zX:Nat→List eS→Nat→Bool
 |0,_,_=>true
 |f+1,l,i=>bif kb l i then false else zX f l (i+1)
def eD (l:List eS):Bool:=zX l.length l 0&&decide ((l.length:Int)≤12)
theorem PM {f:Nat}{l:List eS}{k:Nat}(h:kb l k=true):zX (f+1) l k=false:=by rw [zX,h];rfl
theorem XO {f:Nat}{l:List eS}{k:Nat}(h:kb l k=false):zX (f+1) l k=zX f l (k+1):=by rw [zX,h];rfl
theorem vJ {l:List eS}(h:zX l.length l 0=false):eD l=false:=by unfold eD;rw [h];rfl
theorem T4 {l:List eS}(h:zX l.length l 0=true):eD l=decide ((l.length:Int)≤12):=by unfold eD;rw [h];rfl
theorem aeI {l:List eS}{i:Nat}(h:(!(fB (nth aK l i).1))=true):kb l i=true:=by unfold kb;rw [h];rfl
theorem aeH {l:List eS}{i:Nat}(h:(!(ig (nth aK l i).2 1 15))=true):kb l i=true:=by unfold kb;rw [h,Bool.true_or,ZC4]
theorem aeG {l:List eS}{i:Nat}(h:decide ((i:Int)>0)=true) (h2:(!(Op.bytesLess (nth aK l ((i:Int)-1).toNat).1.toList (nth aK l i).1.toList))=true):kb l i=true:=by unfold kb;rw [h,h2,Bool.and_true,ZC4,ZC4]
theorem aeJ {l:List eS}{i:Nat}(h1:(!(fB (nth aK l i).1))=false) (h2:(!(ig (nth aK l i).2 1 15))=false) (h3:decide ((i:Int)>0)=false):kb l i=false:=by unfold kb;rw [h1,h2,h3];rfl
theorem abY {l:List eS}{i:Nat}(h1:(!(fB (nth aK l i).1))=false) (h2:(!(ig (nth aK l i).2 1 15))=false) (h4:(!(Op.bytesLess (nth aK l ((i:Int)-1).toNat).1.toList (nth aK l i).1.toList))=false):kb l i=false:=by unfold kb;rw [h1,h2,h4,ZD7];rfl
structure afp (l:List eS):Prop where
 len:l.length≤1000000
 sz:∀e∈l,e.1.size≤1000000
theorem afp.at {l:List eS}(h:afp l) (k:Nat):(nth aK l k).1.size≤1000000:=by
 by_cases hk:k<l.length
 ·exact h.sz _ (bR (ek:=aK) hk)
 ·unfold nth;rw [ZD8 (by omega)];exact ZA7 _
def np (l:List eS):Prop:=afp l
def eW (l:List eS):AV:=.s (.q (eD l))
def ON (l:List eS):List AV:=[]
def od:cn where
 A:=[.s (.vz aK)]
 B:=[]
 pre:=fun x b=>np x
 r:=fun x b _=>eW x
 o:=fun x b _=>ON x
theorem D0:Has Tryz.prog 202 od:=by
 refine Has.fl zT zF zF (l:=[(40,gZ),(163,oc)]) ⟨iy,zH,aa⟩ Tryz.func202 ?_
 rintro (l:List eS) _ (hp:np l)
 show vc _ _ _ _ (entry [.s (.vz aK l)] []) _
 have hE:afp l:=hp
 have hlen:=hE.len
 refine cN (l:=[(40,gZ),(163,oc)]) (ex:=zT) (wr:=zF) (pt:=zF) ⟨iy,zH,aa⟩ [.s 0] (fun y:Nat×Nat=>[(.s 3,.int y.1)]) (fun y=>y.1+y.2=l.length∧zX y.2 l y.1=zX l.length l 0) (fun y=>y.2) (0,l.length) [] ⟨ZA6 _,rfl⟩ dL ?_
 rintro⟨k,f⟩ ⟨(hk:k+f=l.length),(he:zX f l k=zX l.length l 0)⟩
 have bU:decide ((k:Int)<(l.length:Int))=true→k<l.length:=fun h=>by have:=aJ h;omega
 have hg:decide ((k:Int)<(l.length:Int))=true→∃g,f=g+1:=fun h=>⟨f-1,by have:=bU h;omega⟩
 refine⟨fun w1=>⟨Sq0,Sq10,rfl,Sq3,Sq11,rfl,[.s 10,.s 11],Sq12,rfl,⟨?_,?_⟩,Sq12,Sq13,rfl,Sq13,Sq14,rfl,Sq14,Sq15,rfl,⟨tv2,?_⟩,?_,fun x2 w3=>⟨Sq15,Sq16,rfl,Sq16,Sq17,rfl,aa,fun w4=>⟨Sq17,Sq18,rfl,Sq17,Sq19,rfl,Sq17,Sq20,rfl,Sq17,Sq21,rfl,Sq17,Sq22,rfl,Sq17,Sq23,rfl,Sq17,Sq24,rfl,[.s 17,.s 24],Sq25,rfl,Sq25,Sq26,rfl,Sq26,Sq27,rfl,Sq26,Sq28,rfl,Sq26,Sq29,rfl,Sq29,Sq30,rfl,Sq29,Sq31,rfl,Sq29,Sq32,rfl,Sq29,Sq33,rfl,Sq29,Sq34,rfl,Sq29,Sq35,rfl,Sq29,Sq36,rfl,Sq29,Sq37,rfl,Sq29,Sq38,rfl,Sq29,Sq39,rfl,Sq29,Sq40,rfl,Sq29,Sq41,rfl,Sq26,Sq42,rfl,[.s 26,.s 42],Sq43,rfl,?_⟩,fun w5=>⟨[.s 17,.s 0],Sq18,rfl,[.s 17,.s 3],Sq19,rfl,[.s 17,.s 18,.s 19],Sq20,rfl,⟨?_,?_⟩,[.s 17,.s 20],Sq21,rfl,[.s 17,.s 21],Sq22,rfl,[.s 17,.s 22],Sq23,rfl,⟨tv4,aa⟩,?_,fun x6 w7=>⟨[.s 17,.s 23],Sq24,rfl,[.s 17,.s 24],Sq25,rfl,Sq25,Sq26,rfl,aa,fun w8=>⟨Sq26,Sq27,rfl,Sq26,Sq28,rfl,Sq26,Sq29,rfl,Sq29,Sq30,rfl,Sq29,Sq31,rfl,Sq29,Sq32,rfl,Sq29,Sq33,rfl,Sq29,Sq34,rfl,Sq29,Sq35,rfl,Sq29,Sq36,rfl,Sq29,Sq37,rfl,Sq29,Sq38,rfl,Sq29,Sq39,rfl,Sq29,Sq40,rfl,Sq29,Sq41,rfl,Sq26,Sq42,rfl,[.s 26,.s 42],Sq43,rfl,?_⟩,fun w9=>⟨[.s 26,.s 3],Sq27,rfl,[.s 26,.s 27],Sq28,rfl,[.s 26,.s 28],Sq29,rfl,aa,fun dx=>⟨[.s 29,.s 0],Sq30,rfl,[.s 29,.s 3],Sq31,rfl,[.s 29,.s 31],Sq32,rfl,⟨?_,?_⟩,[.s 29,.s 30,.s 32],Sq33,rfl,⟨?_,?_⟩,[.s 29,.s 33],Sq34,rfl,[.s 29,.s 34],Sq35,rfl,[.s 29,.s 0],Sq36,rfl,[.s 29,.s 3],Sq37,rfl,[.s 29,.s 36,.s 37],Sq38,rfl,⟨?_,?_⟩,[.s 29,.s 38],Sq39,rfl,[.s 29,.s 39],Sq40,rfl,[.s 29,.s 35,.s 40],Sq41,rfl,[.s 26,.s 29,.s 41],Sq42,rfl,[.s 26,.s 42],Sq43,rfl,fun kx=>?_,fun dI=>⟨⟨?_,?_⟩,?_⟩⟩,fun iS=>⟨Sq29,Sq30,rfl,Sq29,Sq31,rfl,Sq29,Sq32,rfl,Sq29,Sq33,rfl,Sq29,Sq34,rfl,Sq29,Sq35,rfl,Sq29,Sq36,rfl,Sq29,Sq37,rfl,Sq29,Sq38,rfl,Sq29,Sq39,rfl,Sq29,Sq40,rfl,Sq29,Sq41,rfl,[.s 26,.s 29,.s 41],Sq42,rfl,[.s 26,.s 42],Sq43,rfl,⟨?_,?_⟩,?_⟩⟩⟩⟩⟩⟩,fun gN=>?_⟩
 all_goals first|refine aw ?_|refine ax ?_|exact a8|(dsimp only [oc,mL];omega)|exact a7|exact hE.at _|exact bU w1|skip
 ·obtain⟨g,rfl⟩:=hg w1
  have e:eD l=false:=vJ (by rw [←he];exact PM (aeI (show (!(fB (nth aK l k).1))=true from w4)))
  refine⟨[],[],_,_,_,rfl,az,(),aa,?_,?_,rfl⟩
  ·(show _=eW l);unfold eW;first|(rw [e];rfl)|rfl
  ·rfl
 ·obtain⟨g,rfl⟩:=hg w1
  have e:eD l=false:=vJ (by rw [←he];exact PM (aeH (show (!(ig (nth aK l k).2 1 15))=true from w8)))
  refine⟨[],[],_,_,_,rfl,az,(),aa,?_,?_,rfl⟩
  ·(show _=eW l);unfold eW;first|(rw [e];rfl)|rfl
  ·rfl
 ·obtain⟨g,rfl⟩:=hg w1
  have e:eD l=false:=vJ (by rw [←he];exact PM (aeG dx kx))
  refine⟨[],[],_,_,_,rfl,az,(),aa,?_,?_,rfl⟩
  ·(show _=eW l);unfold eW;first|(rw [e];rfl)|rfl
  ·rfl
 ·obtain⟨g,rfl⟩:=hg w1
  refine⟨(k+1,g),[],?_,?_,?_⟩
  rotate_right
  ·exact bV
  ·exact⟨by show k+1+g=l.length;omega,by rw [←he];exact (XO (abY (show (!(fB (nth aK l k).1))=false from w5) (show (!(ig (nth aK l k).2 1 15))=false from w9) dI)).symm⟩
  ·exact ZD9 g
 ·obtain⟨g,rfl⟩:=hg w1
  refine⟨(k+1,g),[],?_,?_,?_⟩
  rotate_right
  ·exact bV
  ·exact⟨by show k+1+g=l.length;omega,by rw [←he];exact (XO (aeJ (show (!(fB (nth aK l k).1))=false from w5) (show (!(ig (nth aK l k).2 1 15))=false from w9) iS)).symm⟩
  ·exact ZD9 g
 ·have hf:f=0:=by have:=aA (p:=(k:Int)<(l.length:Int)) gN;omega
  subst hf
  have e:eD l=decide ((l.length:Int)≤12):=T4 (by rw [←he];rfl)
  refine⟨[],[],_,_,_,rfl,az,(),aa,?_,?_,rfl⟩
  ·(show _=eW l);unfold eW;first|(rw [e];rfl)|rfl
  ·rfl
def aj5 (e:eS):ByteArray:=e.1++⟨#[61]⟩++bX e.2++⟨#[59]⟩
def ri (out:ByteArray) (e:eS):ByteArray:=out++e.1++⟨#[61]⟩++bX e.2++⟨#[59]⟩
def eg (l:List eS):ByteArray:=l.foldl ri ⟨#[]⟩
theorem szl {a b:ByteArray}(ha:a.size≤2001000100) (hb:b.size≤1000000):((a.size+b.size:Nat):Int)≤imax:=by
 unfold imax;omega
structure ab9 (l:List eS):Prop where
 len:l.length≤1000
 sz:∀e∈l,e.1.size≤1000000
 id:∀e∈l,0≤e.2∧e.2≤999999999
def pX (l:List eS):Prop:=ab9 l
def xQ (l:List eS):AV:=.s (.str (eg l))
def aba (l:List eS):List AV:=[]
def qu:cn where
 A:=[.s (.vz aK)]
 B:=[]
 pre:=fun x b=>pX x
 r:=fun x b _=>xQ x
 o:=fun x b _=>aba x
theorem ID:Has Tryz.prog 177 qu:=by
 refine Has.fl zT zF zF (l:=[(168,j1)]) ⟨wN,aa⟩ Tryz.func177 ?_
 rintro (l:List eS) _ (hp:pX l)
 show vc _ _ _ _ (entry [.s (.vz aK l)] []) _
 have hE:ab9 l:=hp
 have hlen:=hE.len
 refine ?_
 all_goals first|refine aw ?_|refine ax ?_|exact a8|(dsimp only [j1,mG];omega)|exact a7|skip
 refine cN (l:=[(168,j1)]) (ex:=zT) (wr:=zF) (pt:=zF) ⟨wN,aa⟩ [.s 0] (fun y:Nat×ByteArray=>[(.s 3,.str y.2),(.s 4,.int y.1)]) (fun y=>y.1≤l.length∧y.2.size≤2000000*y.1∧(l.drop y.1).foldl ri y.2=eg l) (fun y=>l.length-y.1) (0,⟨#[]⟩) [] ⟨ZA7 _,ZA7 _,rfl⟩ dL ?_
 rintro⟨i,out⟩ ⟨(hi:i≤l.length),(ho:out.size≤2000000*i),(hr:(l.drop i).foldl ri out=eg l)⟩
 have bU:decide ((i:Int)<(l.length:Int))=true→i<l.length:=fun h=>by have:=aJ h;omega
 have dj:i<l.length→(nth aK l i).1.size≤1000000:=fun h=>hE.sz _ (bR (ek:=aK) h)
 have hid:i<l.length→0≤(nth aK l i).2∧(nth aK l i).2≤999999999:=fun h=>hE.id _ (bR (ek:=aK) h)
 have ahK:i<l.length→(bX (nth aK l i).2).size≤12:=fun h=>db (ZE0 (hid h).2 (by omega))
 have hs1:i<l.length→(out++(nth aK l i).1).size≤2001000000:=fun h=>by rw [ZB2];have:=dj h;omega
 have hs2:i<l.length→(out++(nth aK l i).1++(⟨#[61]⟩:ByteArray)).size≤2001000001:=fun h=>by rw [ZB2,sz1];have:=hs1 h;omega
 have hs3:i<l.length→(out++(nth aK l i).1++(⟨#[61]⟩:ByteArray)++bX (nth aK l i).2).size≤2001000100:=fun h=>by rw [ZB2];have:=hs2 h;have:=ahK h;omega
 have hA:i<l.length→(0:Int)≤(nth aK l i).2:=fun h=>(hid h).1
 have hB:i<l.length→((nth aK l i).2:Int)≤999999999999:=fun h=>ZE0 (hid h).2 (by omega)
 refine⟨fun w1=>⟨Sq3,Sq11,rfl,Sq0,Sq12,rfl,Sq4,Sq13,rfl,[.s 12,.s 13],Sq14,rfl,⟨?_,?_⟩,Sq14,Sq15,rfl,Sq15,Sq16,rfl,[.s 11,.s 16],Sq17,rfl,?_,Sq17,Sq18,rfl,?_,Sq0,Sq19,rfl,Sq4,Sq20,rfl,[.s 19,.s 20],Sq21,rfl,⟨?_,?_⟩,Sq21,Sq22,rfl,Sq22,Sq23,rfl,Sq23,Sq24,rfl,⟨tv2,?_,?_⟩,?_,fun x2 w3=>⟨[.s 18,.s 24],Sq25,rfl,?_,Sq25,Sq26,rfl,?_,Sq26,Sq3,rfl,⟨?_,?_⟩,?_⟩⟩,fun w4=>?_⟩
 all_goals first|refine aw ?_|refine ax ?_|exact a8|(dsimp only [j1,mG];omega)|exact a7|exact bU w1|(unfold imax;simp only [ZB2,ZA5,sz1];have:=dj (bU w1);have:=ahK (bU w1);omega)|skip
 ·exact hB (bU w1)
 ·have mh:=bU w1
  refine⟨(i+1,ri out (nth aK l i)),[],?_,?_,?_⟩
  rotate_right
  ·exact bV
  ·refine⟨mh,?_,by rw [←hr,bW (ek:=aK) mh];rfl⟩
   show (out++(nth aK l i).1++⟨#[61]⟩++bX (nth aK l i).2++⟨#[59]⟩).size≤2000000*(i+1)
   have a1:=dj mh;have a2:=ahK mh
   simp only [ZB2]
   rw [show (⟨#[61]⟩:ByteArray).size=1 from rfl,show (⟨#[59]⟩:ByteArray).size=1 from rfl];omega
  ·show l.length-(i+1)<l.length-i;omega
 ·have FF:¬i<l.length:=by have:=aA (p:=(i:Int)<(l.length:Int)) (by assumption);omega
  have e:eg l=out:=by rw [←hr,ZB3 (by omega)];rfl
  refine⟨[],[],_,_,_,rfl,az,(),aa,?_,?_,rfl⟩
  ·(show _=xQ l);unfold xQ;first|(rw [e];rfl)|rfl
  ·rfl
def atF:Nat→List eS→Nat→ByteArray→Int
 |0,_,_,_=> -1
 |f+1,l,i,name=>bif decide ((nth aK l i).1=name) then (i:Int) else atF f l (i+1) name
def ll (l:List eS) (name:ByteArray):Int:=atF l.length l 0 name
theorem agY {f:Nat}{l:List eS}{i:Nat}{name:ByteArray}(h:decide ((nth aK l i).1=name)=true):atF (f+1) l i name=(i:Int):=by rw [atF,h];rfl
theorem agZ {f:Nat}{l:List eS}{i:Nat}{name:ByteArray}(h:decide ((nth aK l i).1=name)=false):atF (f+1) l i name=atF f l (i+1) name:=by rw [atF,h];rfl
def o0 (l:List eS) (name:ByteArray):Prop:=l.length≤1000000
def r4 (l:List eS) (name:ByteArray):AV:=.s (.int (ll l name))
def ac1 (l:List eS) (name:ByteArray):List AV:=[]
def oV:cn where
 A:=[.s (.vz aK),.s .str]
 B:=[]
 pre:=fun x b=>o0 (x.1) (x.2)
 r:=fun x b _=>r4 (x.1) (x.2)
 o:=fun x b _=>ac1 (x.1) (x.2)
theorem FB:Has Tryz.prog 157 oV:=by
 refine Has.fl zT zF zF (l:=[]) trivial Tryz.func157 ?_
 rintro⟨(l:List eS),(name:ByteArray)⟩ _ (hp:o0 l name)
 show vc _ _ _ _ (entry [.s (.vz aK l),.str name] []) _
 have hlen:l.length≤1000000:=hp
 refine cN (l:=[]) (ex:=zT) (wr:=zF) (pt:=zF) trivial [.s 0,.s 1] (fun y:Nat×Nat=>[(.s 5,.int y.1)]) (fun y=>y.1+y.2=l.length∧atF y.2 l y.1 name=ll l name) (fun y=>y.2) (0,l.length) [] ⟨ZA6 _,rfl⟩ dL ?_
 rintro⟨k,f⟩ ⟨(hk:k+f=l.length),(he:atF f l k name=ll l name)⟩
 have bU:decide ((k:Int)<(l.length:Int))=true→k<l.length:=fun h=>by have:=aJ h;omega
 have hg:decide ((k:Int)<(l.length:Int))=true→∃g,f=g+1:=fun h=>⟨f-1,by have:=bU h;omega⟩
 refine⟨fun w1=>⟨⟨?_,?_⟩,⟨fun w2=>?_,fun w3=>⟨⟨?_,?_⟩,?_⟩⟩⟩,fun w4=>?_⟩
 all_goals first|refine aw ?_|refine ax ?_|exact a8|exact a7|exact bU w1|skip
 ·obtain⟨g,rfl⟩:=hg w1
  have e:ll l name=(k:Int):=by rw [←he];exact agY w2
  refine⟨[],[],_,_,_,rfl,az,(),aa,?_,?_,rfl⟩
  ·(show _=r4 l name);unfold r4;first|(rw [e];rfl)|rfl
  ·rfl
 ·obtain⟨g,rfl⟩:=hg w1
  refine⟨(k+1,g),[],?_,?_,?_⟩
  rotate_right
  ·exact bV
  ·exact⟨by show k+1+g=l.length;omega,by rw [←he];exact (agZ w3).symm⟩
  ·exact ZD9 g
 ·have hf:f=0:=by have:=aA (p:=(k:Int)<(l.length:Int)) w4;omega
  subst hf
  have e:ll l name= -1:=by rw [←he];rfl
  refine⟨[],[],_,_,_,rfl,az,(),aa,?_,?_,rfl⟩
  ·(show _=r4 l name);unfold r4;first|(rw [e];rfl)|rfl
  ·rfl
def EW (e x:eS) (done:Bool):Bool:= !done&& !(Op.bytesLess x.1.toList e.1.toList||x.1.toList==e.1.toList)
def xm:List eS→eS→Bool→List eS→List eS×Bool
 |[],_,done,out=>(out,done)
 |x::l,e,done,out=>bif EW e x done then xm l e true (out++[e]++[x]) else xm l e done (out++[x])
def wb (e:eS) (r:List eS×Bool):List eS:=bif !r.2 then r.1++[e] else r.1
def qN (l:List eS) (e:eS):List eS:=wb e (xm l e false [])
theorem X8 {x e:eS}{l out:List eS}{done:Bool}(h:EW e x done=true):xm (x::l) e done out=xm l e true (out++[e]++[x]):=by rw [xm,h];rfl
theorem PX {x e:eS}{l out:List eS}{done:Bool}(h:EW e x done=false):xm (x::l) e done out=xm l e done (out++[x]):=by rw [xm,h];rfl
def pY (l:List eS) (e:eS):Prop:=l.length≤1000
def pE (l:List eS) (e:eS):AV:=.s (.xs 0 2 0 (qN l e).length)
def sd (l:List eS) (e:eS):List AV:=[.rs aK (qN l e)]
def qv:cn where
 A:=[.s (.vz aK),.a [.str,.int]]
 B:=[]
 pre:=fun x b=>pY (x.1) (x.2)
 r:=fun x b _=>pE (x.1) (x.2)
 o:=fun x b _=>sd (x.1) (x.2)
 nf:=1
theorem IE:Has Tryz.prog 151 qv:=by
 refine Has.fl zT zF zF (l:=[]) trivial Tryz.func151 ?_
 rintro⟨(l:List eS),⟨(e1:ByteArray),(e2:Int)⟩⟩ _ (hp:pY l (e1,e2))
 show vc _ _ _ _ (entry [.s (.vz aK l),.a [.str e1,.int e2]] []) _
 have hlen:l.length≤1000:=hp
 refine⟨aa,?_⟩
 all_goals first|refine aw ?_|refine ax ?_|exact a8|exact a7|skip
 refine cN (l:=[]) (ex:=zT) (wr:=zF) (pt:=zF) trivial [.s 0,.s 3,.b 1003] (fun y:Nat×List eS×Bool=>[(.s 5,.s (.xs 1008 2 0 y.2.1.length)),(.s 6,.s (.q y.2.2)),(.s 7,.int y.1),(.b 1008,.rs aK y.2.1)]) (fun y=>y.1≤l.length∧y.2.1.length≤2*y.1∧xm (l.drop y.1) (e1,e2) y.2.2 y.2.1=xm l (e1,e2) false []) (fun y=>l.length-y.1) (0,[],false) [] ⟨ZA7 _,ZA7 _,rfl⟩ dL ?_
 rintro⟨i,out,dn⟩ ⟨(hi:i≤l.length),(ho:out.length≤2*i),(hr:xm (l.drop i) (e1,e2) dn out=xm l (e1,e2) false [])⟩
 have bU:decide ((i:Int)<(l.length:Int))=true→i<l.length:=fun h=>by have:=aJ h;omega
 refine⟨fun w1=>⟨Sq6,Sq15,rfl,Sq15,Sq16,rfl,Sq16,Sq17,rfl,aa,fun w2=>⟨[.s 17,.s 0],Sq18,rfl,[.s 17,.s 7],Sq19,rfl,[.s 17,.s 18,.s 19],Sq20,rfl,⟨?_,?_⟩,[.s 17,.s 20],Sq21,rfl,[.s 17,.s 21],Sq22,rfl,[.s 17,.s 3],Sq23,rfl,[.s 17,.s 23,.b 1003],Sq24,rfl,[.s 17,.s 22,.s 24],Sq25,rfl,[.s 17,.s 25],Sq26,rfl,fun w3=>⟨aa,⟨⟨?_,?_⟩,?_,?_⟩,⟨?_,?_⟩,aa,⟨⟨?_,?_⟩,?_,?_⟩,⟨?_,?_⟩,?_⟩,fun w4=>⟨⟨?_,?_⟩,aa,⟨⟨?_,?_⟩,?_,?_⟩,⟨?_,?_⟩,?_⟩⟩,fun w5=>⟨Sq17,Sq18,rfl,Sq17,Sq19,rfl,Sq17,Sq20,rfl,Sq17,Sq21,rfl,Sq17,Sq22,rfl,Sq17,Sq23,rfl,Sq17,Sq24,rfl,Sq17,Sq25,rfl,[.s 17,.s 25],Sq26,rfl,⟨?_,?_⟩,aa,⟨⟨?_,?_⟩,?_,?_⟩,⟨?_,?_⟩,?_⟩⟩,fun w6=>⟨fun w7=>⟨aa,⟨⟨?_,?_⟩,?_,?_⟩,?_⟩,fun w8=>?_⟩⟩
 all_goals first|refine aw ?_|refine ax ?_|exact a8|exact a7|exact bU w1|skip
 ·have mh:=bU w1
  have hb:EW (e1,e2) (nth aK l i) dn=true:=by unfold EW;rw [show (!dn)=true from w2,show (!(Op.bytesLess (nth aK l i).1.toList e1.toList||(nth aK l i).1.toList==e1.toList))=true from w3];rfl
  refine⟨(i+1,out++[(e1,e2)]++[nth aK l i],true),[(1008,1037)],?_,?_,?_⟩
  rotate_right
  ·exact bV
  ·refine⟨mh,by show (out++[(e1,e2)]++[nth aK l i]).length≤2*(i+1);rw [ZA0,ZA0];show out.length+1+1≤_;omega,?_⟩
   rw [←hr,bW (ek:=aK) mh,X8 hb]
  ·show l.length-(i+1)<l.length-i;omega
 ·have mh:=bU w1
  have hb:EW (e1,e2) (nth aK l i) dn=false:=by unfold EW;rw [show (!(Op.bytesLess (nth aK l i).1.toList e1.toList||(nth aK l i).1.toList==e1.toList))=false from w4,ZD7]
  refine⟨(i+1,out++[nth aK l i],dn),[(1008,1037)],?_,?_,?_⟩
  rotate_right
  ·exact bV
  ·refine⟨mh,by show (out++[nth aK l i]).length≤2*(i+1);rw [ZA0];show out.length+1≤_;omega,?_⟩
   rw [←hr,bW (ek:=aK) mh,PX hb]
  ·show l.length-(i+1)<l.length-i;omega
 ·have mh:=bU w1
  have hb:EW (e1,e2) (nth aK l i) dn=false:=by unfold EW;rw [show (!dn)=false from w5];rfl
  refine⟨(i+1,out++[nth aK l i],dn),[(1008,1037)],?_,?_,?_⟩
  rotate_right
  ·exact bV
  ·refine⟨mh,by show (out++[nth aK l i]).length≤2*(i+1);rw [ZA0];show out.length+1≤_;omega,?_⟩
   rw [←hr,bW (ek:=aK) mh,PX hb]
  ·show l.length-(i+1)<l.length-i;omega
 ·have FF:¬i<l.length:=by have:=aA (p:=(i:Int)<(l.length:Int)) w6;omega
  have e:qN l (e1,e2)=out++[(e1,e2)]:=by unfold qN;rw [←hr,ZB3 (by omega)];show wb (e1,e2) (out,dn)=_;unfold wb;rw [show (!dn)=true from w7];rfl
  refine⟨[1043],[],_,_,_,rfl,az,(),aa,?_,?_,rfl⟩
  ·(show _=pE l (e1,e2));unfold pE;first|(rw [e,ZA0];rfl)|(rw [e];rfl)|rfl
  ·(show _=sd l (e1,e2));unfold sd;first|(rw [e,ZA0];rfl)|(rw [e];rfl)|rfl
 ·have FF:¬i<l.length:=by have:=aA (p:=(i:Int)<(l.length:Int)) w6;omega
  have e:qN l (e1,e2)=out:=by unfold qN;rw [←hr,ZB3 (by omega)];show wb (e1,e2) (out,dn)=_;unfold wb;rw [show (!dn)=false from w8];rfl
  refine⟨[1008],[],_,_,_,rfl,az,(),aa,?_,?_,rfl⟩
  ·(show _=pE l (e1,e2));unfold pE;first|(rw [e];rfl)|rfl
  ·(show _=sd l (e1,e2));unfold sd;first|(rw [e];rfl)|rfl
def eu (l:List eS) (i:Nat):List eS:=l.take i++l.drop (i+1)
def qW (l:List eS) (i:Int):Prop:=l.length≤1000∧0≤i∧i<l.length
def uZ (l:List eS) (i:Int):AV:=.s (.xs 0 2 0 (eu l i.toNat).length)
def yk (l:List eS) (i:Int):List AV:=[.rs aK (eu l i.toNat)]
def sG:cn where
 A:=[.s (.vz aK),.s .int]
 B:=[]
 pre:=fun x b=>qW (x.1) (x.2)
 r:=fun x b _=>uZ (x.1) (x.2)
 o:=fun x b _=>yk (x.1) (x.2)
 nf:=1
theorem L7:Has Tryz.prog 156 sG:=by
 refine Has.fl zT zF zF (l:=[]) trivial Tryz.func156 ?_
 rintro⟨(l:List eS),(i:Int)⟩ _ (hp:qW l i)
 show vc _ _ _ _ (entry [.s (.vz aK l),.int i] []) _
 obtain⟨h1,h2,h3⟩:=hp
 have e:eu l i.toNat=l.take (i.toNat-0)++l.drop (i+1).toNat:=by unfold eu;rw [Nat.sub_zero,show (i+1).toNat=i.toNat+1 by omega]
 have hl1:(l.take (i.toNat-0)).length≤1000:=by rw [ZC0];omega
 have hl2:((l.drop (i+1).toNat).take (l.length-(i+1).toNat)).length≤1000:=by rw [ZC0,ZD0];omega
 refine⟨[.b 1005],[.s 5,.b 1005],rfl,aa,Sq0,Sq6,rfl,Sq1,Sq7,rfl,[.s 6,.s 7],Sq8,rfl,⟨?_,?_,?_⟩,[.s 5,.s 8,.b 1005,.b 1009],[.s 9,.b 1009,.b 1005],rfl,⟨⟨?_,?_⟩,aa⟩,Sq0,Sq10,rfl,Sq1,Sq11,rfl,Sq11,Sq12,rfl,⟨?_,?_⟩,[.s 10,.s 12],Sq13,rfl,⟨?_,?_,?_⟩,[.s 9,.s 13,.b 1009,.b 1014],[.s 14,.b 1014,.b 1009],rfl,⟨⟨?_,?_⟩,aa⟩,Sq14,Sq4,rfl,?_⟩
 all_goals first|refine aw ?_|refine ax ?_|exact a8|exact a7|(show 0+(l.take (i.toNat-0)).length≤1048576;omega)|(show ([]++l.take (i.toNat-0)).length+((l.drop (i+1).toNat).take (l.length-(i+1).toNat)).length≤1048576;rw [ZC9];omega)|skip
 ·have e2:(eu l i.toNat).length=([]++l.take (i.toNat-0)).length+((l.drop (i+1).toNat).take (l.length-(i+1).toNat)).length:=by rw [e,ZA0,ZC9,ZD1 (l:=l.drop _) (by rw [ZD0];omega)]
  have e3:eu l i.toNat=([]++l.take (i.toNat-0))++((l.drop (i+1).toNat).take (l.length-(i+1).toNat)):=by rw [e,ZC9,ZD1 (l:=l.drop _) (by rw [ZD0];omega)]
  refine⟨[1014],[],_,_,_,rfl,az,(),aa,?_,?_,rfl⟩
  ·(show _=uZ l i);unfold uZ;first|(rw [e2];rfl)|(rw [e3];rfl)|rfl
  ·(show _=yk l i);unfold yk;first|(rw [e2];rfl)|(rw [e3];rfl)|rfl
end GL
namespace GL
def j5:List Pt→ay→ay
 |[],s=>s
 |p::l,s=>j5 l (gd s p.1.toNat)
def aiS (u:ay):ay:=(u.rows,u.refs,u.last,u.cg+1,[],u.bZ,u.dead,u.same)
def ie (s:ay):ay:=aiS (j5 s.gone s)
structure ay.gk (s:ay):Prop where
 n:s.n64
 len:s.gone.length≤1000000
 ok:∀p∈s.gone,0≤p.1∧p.1<64
 cg: -1000000≤s.cg∧s.cg≤1000000
def ji (S:ay):Prop:=S.gk
def xP (S:ay):AV:=.a (kT 0 1 2 5 4 (ie S))
def B3 (S:ay):List AV:=[.rs ab (ie S).rows,.rs ag (ie S).refs,.rs ag (ie S).last,.rs ae S.gone,.rs ae (ie S).dead,.rs ae []]
def gY:cn where
 A:=[.a (stB 0 1 2 3 4)]
 B:=[.r ab,.r ag,.r ag,.r ae,.r ae]
 pre:=fun x b=>stW x b∧ji (gO x b)
 r:=fun x b _=>xP (gO x b)
 o:=fun x b _=>B3 (gO x b)
 nf:=1
theorem su:Has Tryz.prog 24 gY:=by
 refine Has.fl zT zF zF (l:=[(58,qs)]) ⟨IA,aa⟩ Tryz.func24 ?_
 rintro⟨(AO:Nat),(AN:Nat),(AM:Nat),(ao:Int),(AL:Nat),(aq:Int),(AK:Nat),(ar:Bool)⟩ ⟨(aj:List ByteArray),(ak:List Int),(an:List Int),(ah:List Pt),(ai:List Pt)⟩ ⟨⟨(gB:AO=List.length aj),(gA:AN=List.length ak),(gz:AM=List.length an),(gy:AL=List.length ah),(gx:AK=List.length ai)⟩,(hp:ji (aj,ak,an,ao,ah,aq,ai,ar))⟩
 subst gB gA gz gy gx
 show vc _ _ _ _ (entry [.a [.xs 0 1 0 aj.length,.xs 1 1 0 ak.length,.xs 2 1 0 an.length,.int ao,.xs 3 5 0 ah.length,.int aq,.xs 4 5 0 ai.length,.q ar]] [.rs ab aj,.rs ag ak,.rs ag an,.rs ae ah,.rs ae ai]) _
 let g':=(aj,ak,an,ao,ah,aq,ai,ar)
 have hgk:ay.gk g':=hp
 have hgl:ah.length≤1000000:=hgk.len
 have hn:aj.length=64∧ak.length=64∧an.length=64:=hgk.n
 refine ?_
 all_goals first|refine aw ?_|refine ax ?_|exact a8|(dsimp only [qs,pR,gO];omega)|exact a7|skip
 refine cN (l:=[(58,qs)]) (ex:=zT) (wr:=zF) (pt:=zF) ⟨IA,aa⟩ [.s 1,.s 2,.b 1002,.b 3,.b 4] (fun y:Nat×List ByteArray×List Int×List Int=>[(.s 3,.int y.1),(.b 1001,.a (kT 0 1 2 3 4 (y.2.1,y.2.2.1,y.2.2.2,ao,ah,aq,ai,ar))),(.b 0,.rs ab y.2.1),(.b 1,.rs ag y.2.2.1),(.b 2,.rs ag y.2.2.2)]) (fun y=>y.1≤ah.length∧(y.2.1.length=64∧y.2.2.1.length=64∧y.2.2.2.length=64)∧j5 (ah.drop y.1) (y.2.1,y.2.2.1,y.2.2.2,ao,ah,aq,ai,ar)=j5 ah g') (fun y=>ah.length-y.1) (0,aj,ak,an) [] ⟨ZA7 _,hn,rfl⟩ dL ?_
 rintro⟨i,ro,rf,la⟩ ⟨(hi:i≤ah.length),⟨(h1:ro.length=64),(h2:rf.length=64),(h3:la.length=64)⟩,(hr:j5 (ah.drop i) (ro,rf,la,ao,ah,aq,ai,ar)=j5 ah g')⟩
 have bU:decide ((i:Int)<(ah.length:Int))=true→i<ah.length:=fun h=>by have:=aJ h;omega
 have xy:i<ah.length→0≤(nth ae ah i).1∧(nth ae ah i).1<64:=fun h=>hgk.ok _ (bR (ek:=ae) h)
 have htx:=hgk.cg
 have akH: -1000000≤ao:=htx.1
 have al3:ao≤1000000:=htx.2
 refine⟨fun w1=>⟨[.s 1,.b 1001],Sq11,rfl,Sq1,Sq12,rfl,[.s 12,.b 1001],Sq13,rfl,Sq3,Sq14,rfl,[.s 13,.s 14],Sq15,rfl,⟨?_,?_⟩,Sq15,Sq16,rfl,[.s 16,.b 3],Sq17,rfl,?_,[.s 11,.s 17,.b 0,.b 1,.b 2,.b 3,.b 4],[.s 18,.b 0,.b 1,.b 2,.b 3,.b 4],rfl,⟨⟨tv9,tv2⟩,⟨?_,?_,?_,?_,?_⟩,⟨?_,?_,?_⟩,?_,?_⟩,?_,fun x2 w3=>⟨[.s 1,.s 18,.b 1001],[.b 1001],rfl,⟨?_,?_⟩,?_⟩⟩,fun w4=>⟨aa,⟨?_,?_⟩,?_⟩⟩
 all_goals first|refine aw ?_|refine ax ?_|exact a8|(dsimp only [qs,pR,gO];omega)|exact a7|(simp only [gJ,imax];omega)|exact bU w1|skip
 ·exact (xy (bU w1)).1
 ·exact (xy (bU w1)).2
 ·have mh:=bU w1
  have hdl:=wZ (ro,rf,la,ao,ah,aq,ai,ar) (nth ae ah i).1.toNat
  refine⟨(i+1,(gd (ro,rf,la,ao,ah,aq,ai,ar) (nth ae ah i).1.toNat).1,(gd (ro,rf,la,ao,ah,aq,ai,ar) (nth ae ah i).1.toNat).2.1,(gd (ro,rf,la,ao,ah,aq,ai,ar) (nth ae ah i).1.toNat).2.2.1),[],?_,?_,?_⟩
  rotate_right
  ·exact bV
  ·refine⟨mh,⟨hdl.1.trans h1,hdl.2.1.trans h2,hdl.2.2.trans h3⟩,?_⟩
   rw [←hr,bW (ek:=ae) mh];rfl
  ·show ah.length-(i+1)<ah.length-i;omega
 ·show gJ≤ao+1;simp only [gJ];omega
 ·show ao+1≤imax;simp only [imax];omega
 ·have FF:¬i<ah.length:=by have:=aA (p:=(i:Int)<(ah.length:Int)) w4;omega
  have e:ie g'=(ro,rf,la,ao+1,[],aq,ai,ar):=by
   unfold ie
   rw [show j5 (ay.gone g') g'=(ro,rf,la,ao,ah,aq,ai,ar) by
    rw [ZB3 (by omega)] at hr;exact hr.symm]
   rfl
  refine⟨[1019],[],_,_,_,rfl,az,(),aa,?_,?_,rfl⟩
  ·(show _=xP g');unfold xP;first|(rw [e];rfl)|rfl
  ·(show _=B3 g');unfold B3;first|(rw [e];rfl)|rfl
def j4:Nat→ay→List Pt→List Pt→Option (List Pt)
 |0,_,_,_=>none
 |_+1,_,[],out=>some out
 |f+1,s,p::l,out=>bif au p then j4 f s l out else bif decide (p.2.2.2.2>0) then j4 f s ((bg s p p.2.2.2.2).1++l) (out++[p]) else j4 f s l (out++[p])
def allM (s:ay) (t:bf):List Pt:=(j4 40 s [t.root] []).getD []
def M6 (s:ay) (t:bf):Bool:=(j4 40 s [t.root] []).isSome
def wA (S:ay) (t:bf):Prop:=S.rd∧M6 S t=true
def A9 (S:ay) (t:bf):AV:=.s (.xs 0 5 0 (allM S t).length)
def HC (S:ay) (t:bf):List AV:=[.rs ae (allM S t)]
def z1:cn where
 A:=[.a xq,.a [.int,.int,.int,.int,.int,.int,.int]]
 B:=[]
 pre:=fun x b=>wA (x.1) (x.2)
 r:=fun x b _=>A9 (x.1) (x.2)
 o:=fun x b _=>HC (x.1) (x.2)
 nf:=1
theorem ZM:Has Tryz.prog 181 z1:=by
 refine Has.fl zT zF (fun d=>Nat.beq d 23) (l:=[(54,cx),(89,ee)]) ⟨cz,lg,aa⟩ Tryz.func181 ?_
 rintro⟨⟨(aj:List ByteArray),(ak:List Int),(an:List Int),(ao:Int),(ah:List Pt),(aq:Int),(ai:List Pt),(ar:Bool)⟩,⟨(t1:Int),(t2:Int),(t3:Int),(t4:Int),(t5:Int),(t6:Int),(t7:Int)⟩⟩ _ (hp:wA (aj,ak,an,ao,ah,aq,ai,ar) (t1,t2,t3,t4,t5,t6,t7))
 show vc _ _ _ _ (entry [.a [.vz ab aj,.vz ag ak,.vz ag an,.int ao,.vz ae ah,.int aq,.vz ae ai,.q ar],.a [.int t1,.int t2,.int t3,.int t4,.int t5,.int t6,.int t7]] []) _
 let g':=(aj,ak,an,ao,ah,aq,ai,ar)
 let A':=(t1,t2,t3,t4,t5,t6,t7)
 obtain⟨dE,hen⟩:=hp
 have dE:ay.rd g':=dE
 obtain⟨al,hal⟩:=Option.isSome_iff_exists.1 hen
 have hal:j4 40 g' [bf.root A'] []=some al:=hal
 have hM:allM g' A'=al:=by unfold allM;rw [hal];rfl
 refine⟨aa,aa,?_⟩
 all_goals first|refine aw ?_|refine ax ?_|exact a8|(dsimp only [ee,fE];omega)|exact a7|exact dE|skip
 refine cN (l:=[(54,cx),(89,ee)]) (ex:=zT) (wr:=zF) (pt:=fun d=>Nat.beq d 23) ⟨cz,lg,trivial⟩ [.s 2,.s 3,.s 4,.b 1002,.b 1003] (fun y:Nat×List Pt×List Pt=>[(.s 5,.s (.xs 1010 5 0 y.2.2.length)),(.s 6,.s (.xs 1013 5 0 y.2.1.length)),(.b 1010,.rs ae y.2.2),(.b 1013,.rs ae y.2.1)]) (fun y=>y.1≤40∧y.2.1.length+4*y.1≤161∧y.2.2.length+y.1≤40∧j4 y.1 g' y.2.1 y.2.2=some al) (fun y=>y.1) (40,[bf.root A'],[]) [] ⟨ZB5 _,by show 1+4*40≤161;omega,by show 0+40≤40;omega,hal⟩ dL ?_
 rintro⟨f,td,out⟩ ⟨(hf:f≤40),(htd:td.length+4*f≤161),(nY:out.length+f≤40),(hr:j4 f g' td out=some al)⟩
 have bU:decide ((td.length:Int)>0)=true→0<td.length:=fun h=>by have:=aJ h;omega
 have hbl:=(iE g' (nth ae td 0) (nth ae td 0).2.2.2.2).1
 have ZQ:decide ((td.length:Int)>0)=true→∃l,td=nth ae td 0::l:=fun h=>by
  have:=bU h
  cases td with
  |nil=>simp at this
  |cons p l=>exact⟨l,rfl⟩
 have afU:∃g,f=g+1:=by
  cases f with
  |zero=>cases hr
  |succ g=>exact⟨g,rfl⟩
 refine⟨fun w1=>⟨⟨?_,?_⟩,?_,aa,⟨?_,?_,?_⟩,⟨⟨?_,?_⟩,?_⟩,⟨⟨tv6,aa⟩,aa⟩,fun x2 w3=>⟨fun w4=>?_,fun w5=>⟨aa,⟨⟨?_,?_⟩,?_,?_⟩,fun w6=>⟨⟨⟨tv9,tv6,tv2⟩,?_⟩,fun x7 w8=>⟨aa,⟨⟨?_,?_⟩,?_,?_⟩,⟨⟨?_,?_⟩,?_,?_⟩,?_⟩⟩,fun w9=>?_⟩⟩⟩,fun dx=>?_⟩
 all_goals first|refine aw ?_|refine ax ?_|exact a8|(dsimp only [ee,fE];omega)|exact a7|exact bU w1|exact dE|(show 0+(td.drop 1).length≤1048576;rw [ZD0];omega)|(show 0+((td.drop 1).take (td.length-1)).length≤1048576;rw [ZC0,ZD0];omega)|skip
 ·
  obtain⟨l,rP⟩:=ZQ w1
  have eT:(([]:List Pt)++(td.drop 1).take (td.length-1))=l:=by rw [rP];simp
  obtain⟨g,rfl⟩:∃g,f=g+1:=afU
  have hll:l.length+1=td.length:=by rw [rP];rfl
  have hh:au (nth ae td 0)=true:=w4
  rw [rP,j4,hh] at hr
  refine⟨(g,(([]:List Pt)++(td.drop 1).take (td.length-1)),out),[(1013,1023)],?_,?_,?_⟩
  rotate_right
  ·exact bV
  ·exact⟨by show g≤40;omega,by show ((([]:List Pt)++(td.drop 1).take (td.length-1))).length+4*g≤161;rw [eT];omega,by show out.length+g≤40;omega,by show j4 g g' (([]:List Pt)++(td.drop 1).take (td.length-1)) out=some al;rw [eT];exact hr⟩
  ·exact ZD9 g
 ·show ([]:List Pt).length+(bg g' (nth ae td 0) (nth ae td 0).2.2.2.2).1.length≤1048576;have:=hbl;show 0+_≤_;omega
 ·obtain⟨l,rP⟩:=ZQ w1
  have eT:(([]:List Pt)++(td.drop 1).take (td.length-1))=l:=by rw [rP];simp
  have hll:l.length+1=td.length:=by rw [rP];rfl
  show (([]:List Pt)++(bg g' (nth ae td 0) (nth ae td 0).2.2.2.2).1).length+(([]:List Pt)++(td.drop 1).take (td.length-1)).length≤1048576
  rw [eT,ZC9];omega
 ·
  obtain⟨l,rP⟩:=ZQ w1
  have eT:(([]:List Pt)++(td.drop 1).take (td.length-1))=l:=by rw [rP];simp
  obtain⟨g,rfl⟩:∃g,f=g+1:=afU
  have hll:l.length+1=td.length:=by rw [rP];rfl
  have hh:au (nth ae td 0)=false:=w5
  rw [rP,j4,hh,show decide ((nth ae td 0).2.2.2.2>0)=true from w6] at hr
  refine⟨(g,(([]:List Pt)++(bg g' (nth ae td 0) (nth ae td 0).2.2.2.2).1)++(([]:List Pt)++(td.drop 1).take (td.length-1)),out++[(nth ae td 0)]),[(1013,1045),(1010,1029)],?_,?_,?_⟩
  rotate_right
  ·exact bV
  ·refine⟨by show g≤40;omega,?_,?_,?_⟩
   ·show ((([]:List Pt)++(bg g' (nth ae td 0) (nth ae td 0).2.2.2.2).1)++(([]:List Pt)++(td.drop 1).take (td.length-1))).length+4*g≤161;rw [eT,ZC9,ZA0];omega
   ·show (out++[(nth ae td 0)]).length+g≤40;rw [ZA0];show out.length+1+g≤40;omega
   ·show j4 g g' ((([]:List Pt)++(bg g' (nth ae td 0) (nth ae td 0).2.2.2.2).1)++(([]:List Pt)++(td.drop 1).take (td.length-1))) (out++[(nth ae td 0)])=some al;rw [eT,ZC9];exact hr
  ·exact ZD9 g
 ·
  obtain⟨l,rP⟩:=ZQ w1
  have eT:(([]:List Pt)++(td.drop 1).take (td.length-1))=l:=by rw [rP];simp
  obtain⟨g,rfl⟩:∃g,f=g+1:=afU
  have hll:l.length+1=td.length:=by rw [rP];rfl
  have hh:au (nth ae td 0)=false:=w5
  rw [rP,j4,hh,show decide ((nth ae td 0).2.2.2.2>0)=false from w9] at hr
  refine⟨(g,(([]:List Pt)++(td.drop 1).take (td.length-1)),out++[(nth ae td 0)]),[(1013,1023),(1010,1029)],?_,?_,?_⟩
  rotate_right
  ·exact bV
  ·refine⟨by show g≤40;omega,?_,?_,?_⟩
   ·show ((([]:List Pt)++(td.drop 1).take (td.length-1))).length+4*g≤161;rw [eT];omega
   ·show (out++[(nth ae td 0)]).length+g≤40;rw [ZA0];show out.length+1+g≤40;omega
   ·show j4 g g' (([]:List Pt)++(td.drop 1).take (td.length-1)) (out++[(nth ae td 0)])=some al;rw [eT];exact hr
  ·exact ZD9 g
 ·have h0:td=[]:=by cases td with
   |nil=>rfl
   |cons p l=>exact absurd (aA dx) (by simp)
  obtain⟨g,rfl⟩:∃g,f=g+1:=afU
  rw [h0,j4] at hr
  have e:allM g' A'=out:=by rw [hM];exact (ZG5 hr).symm
  refine⟨[1010],[],_,_,_,rfl,az,(),aa,?_,?_,rfl⟩
  ·(show _=A9 g' A');unfold A9;first|(rw [e];rfl)|rfl
  ·(show _=HC g' A');unfold HC;first|(rw [e];rfl)|rfl
end GL
end Go.Proofs.YtclcgjhhehbdeaaGreatDoor
