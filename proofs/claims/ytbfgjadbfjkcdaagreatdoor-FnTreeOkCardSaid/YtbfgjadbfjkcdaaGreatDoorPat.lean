/- FnTreeOk returns true for every code (its row lists package variables, tied by the card): part 20. -/
import Derived.Test.YtbfgjadbfjkcdaaGreatDoorPao
import Derived.Test.YtbfgjadbfjkcdaaGreatDoorPaq
set_option maxHeartbeats 20000000
set_option linter.all false
namespace Go.Proofs.YtbfgjadbfjkcdaaGreatDoor
namespace GL
def L5 (s:ByteArray) (k:Nat):Bool:=decide (bN s k<97)||decide (bN s k>122)
def nmF:Nat→ByteArray→Nat→Bool
 |0,_,_=>true
 |f+1,s,k=>bif L5 s k then false else nmF f s (k+1)
def fD (s:ByteArray):Bool:=nmF s.size s 0&&iC s.size 1 4
theorem ag3 {f:Nat}{s:ByteArray}{k:Nat}(h:L5 s k=true):nmF (f+1) s k=false:=by rw [nmF,h];rfl
theorem ajj {f:Nat}{s:ByteArray}{k:Nat}(h:L5 s k=false):nmF (f+1) s k=nmF f s (k+1):=by rw [nmF,h];rfl
theorem S9 {s:ByteArray}(h:nmF s.size s 0=false):fD s=false:=by unfold fD;rw [h];rfl
theorem adQ {s:ByteArray}(h:nmF s.size s 0=true):fD s=iC s.size 1 4:=by unfold fD;rw [h];rfl
def mV (s:ByteArray):Prop:=s.size≤1000000
def kN (s:ByteArray):AV:=.s (.q (fD s))
def abL (s:ByteArray):List AV:=[]
def ow:Con where
 A:=[.s .str]
 B:=[]
 pre:=fun x b=>mV x
 α:=fun _ _=>Unit
 φ:=fun _ _ _=>True
 r:=fun x b _=>kN x
 o:=fun x b _=>abL x
 nf:=0
set_option maxRecDepth 100000 in
theorem zW:Has Tryz.prog 112 ow:=by
 refine Has.ofE (fun _=>true) (fun _=>false) (fun _=>false) (l:=[(24,dE)]) ⟨iA,trivial⟩ (fn:=Tryz.f112) Tryz.func112 rfl (by decide) (aZ rfl) ?_
 rintro (s:ByteArray) _ (hp:mV s)
 show vc _ _ _ _ (entry [.str s] []) _
 unfold mV at hp
 refine cO (l:=[(24,dE)]) (ex:=fun _=>true) (wr:=fun _=>false) (pt:=fun _=>false) ⟨iA,aa⟩ [.s 0] (fun y:Nat×Nat=>[(.s 3,.int y.1)]) (fun y=>y.1+y.2=s.size∧nmF y.2 s y.1=nmF s.size s 0) (fun y=>y.2) (0,s.size) [] ⟨ZA7 _,rfl⟩ dN ?_
 rintro⟨k,f⟩ ⟨(hk:k+f=s.size),(he:nmF f s k=nmF s.size s 0)⟩
 have hb:=xn s k
 have bU:decide ((k:Int)<s.size)=true→∃g,f=g+1:=fun h=>⟨f-1,by have:=aE h;omega⟩
 refine⟨fun w1=>⟨⟨?_,?_⟩,aa,fun w2=>?_,fun w3=>⟨⟨?_,?_⟩,fun w4=>?_,fun w5=>⟨⟨?_,?_⟩,?_⟩⟩⟩,fun w6=>⟨⟨⟨aa,aa,aa,aa⟩,aa⟩,fun x7 w8=>?_⟩⟩
 all_goals first|refine aw ?_|refine ax ?_|exact ba|(dsimp only [dE,gX];omega)|exact a8|skip
 ·obtain⟨g,rfl⟩:=bU w1
  have e:fD s=false:=S9 (by rw [←he];exact ag3 (by unfold L5;rw [show decide (bN s k<97)=true from w2];rfl))
  refine⟨[],[],_,_,_,rfl,az,(),aa,?_,?_,rfl⟩
  ·(show _=kN s);unfold kN;first|(rw [e];rfl)|rfl
  ·rfl
 ·obtain⟨g,rfl⟩:=bU w1
  have e:fD s=false:=S9 (by rw [←he];exact ag3 (by unfold L5;rw [show decide (bN s k>122)=true from w4,ZC4]))
  refine⟨[],[],_,_,_,rfl,az,(),aa,?_,?_,rfl⟩
  ·(show _=kN s);unfold kN;first|(rw [e];rfl)|rfl
  ·rfl
 ·obtain⟨g,rfl⟩:=bU w1
  refine⟨(k+1,g),[],?_,?_,?_⟩
  rotate_right
  ·exact bX
  ·exact⟨by show k+1+g=s.size;omega,by rw [←he];exact (ajj (by unfold L5;rw [show decide (bN s k<97)=false from w3,show decide (bN s k>122)=false from w5];rfl)).symm⟩
  ·exact ZE0 g
 ·have hf:f=0:=by have:=aA (p:=(k:Int)<s.size) w6;omega
  subst hf
  have e:fD s=iC s.size 1 4:=adQ (by rw [←he];rfl)
  refine⟨[],[],_,_,_,rfl,az,(),aa,?_,?_,rfl⟩
  ·(show _=kN s);unfold kN;first|(rw [e];rfl)|rfl
  ·rfl
def ki (l:List eW) (i:Nat):Bool:= !(fD (nth aK l i).1)||(!(iC (nth aK l i).2 1 15)||(decide ((i:Int)>0)&& !(Op.bytesLess (nth aK l ((i:Int)-1).toNat).1.toList (nth aK l i).1.toList)))
def AH:Nat→List eW→Nat→Bool
 |0,_,_=>true
 |f+1,l,i=>bif ki l i then false else AH f l (i+1)
def eG (l:List eW):Bool:=AH l.length l 0&&decide ((l.length:Int)≤12)
theorem P7 {f:Nat}{l:List eW}{k:Nat}(h:ki l k=true):AH (f+1) l k=false:=by rw [AH,h];rfl
theorem YC {f:Nat}{l:List eW}{k:Nat}(h:ki l k=false):AH (f+1) l k=AH f l (k+1):=by rw [AH,h];rfl
theorem vU {l:List eW}(h:AH l.length l 0=false):eG l=false:=by unfold eG;rw [h];rfl
theorem UQ {l:List eW}(h:AH l.length l 0=true):eG l=decide ((l.length:Int)≤12):=by unfold eG;rw [h];rfl
theorem afb {l:List eW}{i:Nat}(h:(!(fD (nth aK l i).1))=true):ki l i=true:=by unfold ki;rw [h];rfl
theorem afa {l:List eW}{i:Nat}(h:(!(iC (nth aK l i).2 1 15))=true):ki l i=true:=by unfold ki;rw [h,Bool.true_or,ZC4]
theorem ae9 {l:List eW}{i:Nat}(h:decide ((i:Int)>0)=true) (h2:(!(Op.bytesLess (nth aK l ((i:Int)-1).toNat).1.toList (nth aK l i).1.toList))=true):ki l i=true:=by unfold ki;rw [h,h2,Bool.and_true,ZC4,ZC4]
theorem afc {l:List eW}{i:Nat}(h1:(!(fD (nth aK l i).1))=false) (h2:(!(iC (nth aK l i).2 1 15))=false) (h3:decide ((i:Int)>0)=false):ki l i=false:=by unfold ki;rw [h1,h2,h3];rfl
theorem acs {l:List eW}{i:Nat}(h1:(!(fD (nth aK l i).1))=false) (h2:(!(iC (nth aK l i).2 1 15))=false) (h4:(!(Op.bytesLess (nth aK l ((i:Int)-1).toNat).1.toList (nth aK l i).1.toList))=false):ki l i=false:=by unfold ki;rw [h1,h2,h4,ZD8];rfl
structure afO (l:List eW):Prop where
 len:l.length≤1000000
 sz:∀e∈l,e.1.size≤1000000
theorem afO.at {l:List eW}(h:afO l) (k:Nat):(nth aK l k).1.size≤1000000:=by
 by_cases hk:k<l.length
 ·exact h.sz _ (bT (ek:=aK) hk)
 ·unfold nth;rw [ZD9 (by omega)];exact ZA8 _
def nB (l:List eW):Prop:=afO l
def eZ (l:List eW):AV:=.s (.q (eG l))
def O5 (l:List eW):List AV:=[]
def ox:Con where
 A:=[.s (.vz aK)]
 B:=[]
 pre:=fun x b=>nB x
 α:=fun _ _=>Unit
 φ:=fun _ _ _=>True
 r:=fun x b _=>eZ x
 o:=fun x b _=>O5 x
 nf:=0
set_option maxRecDepth 100000 in
theorem EE:Has Tryz.prog 166 ox:=by
 refine Has.ofE (fun _=>true) (fun _=>false) (fun _=>false) (l:=[(24,dE),(112,ow)]) ⟨iA,zW,trivial⟩ (fn:=Tryz.f166) Tryz.func166 rfl (by decide) (aZ rfl) ?_
 rintro (l:List eW) _ (hp:nB l)
 show vc _ _ _ _ (entry [.s (.vz aK l)] []) _
 have hE:afO l:=hp
 have hlen:=hE.len
 refine cO (l:=[(24,dE),(112,ow)]) (ex:=fun _=>true) (wr:=fun _=>false) (pt:=fun _=>false) ⟨iA,zW,aa⟩ [.s 0] (fun y:Nat×Nat=>[(.s 3,.int y.1)]) (fun y=>y.1+y.2=l.length∧AH y.2 l y.1=AH l.length l 0) (fun y=>y.2) (0,l.length) [] ⟨ZA7 _,rfl⟩ dN ?_
 rintro⟨k,f⟩ ⟨(hk:k+f=l.length),(he:AH f l k=AH l.length l 0)⟩
 have bU:decide ((k:Int)<(l.length:Int))=true→k<l.length:=fun h=>by have:=aE h;omega
 have hg:decide ((k:Int)<(l.length:Int))=true→∃g,f=g+1:=fun h=>⟨f-1,by have:=bU h;omega⟩
 refine⟨fun w1=>⟨[.s 0],[.s 10],rfl,[.s 3],[.s 11],rfl,[.s 10,.s 11],[.s 12],rfl,⟨?_,?_⟩,[.s 12],[.s 13],rfl,[.s 13],[.s 14],rfl,[.s 14],[.s 15],rfl,⟨⟨aa,aa⟩,?_⟩,?_,fun x2 w3=>⟨[.s 15],[.s 16],rfl,[.s 16],[.s 17],rfl,aa,fun w4=>⟨[.s 17],[.s 18],rfl,[.s 17],[.s 19],rfl,[.s 17],[.s 20],rfl,[.s 17],[.s 21],rfl,[.s 17],[.s 22],rfl,[.s 17],[.s 23],rfl,[.s 17],[.s 24],rfl,[.s 17,.s 24],[.s 25],rfl,[.s 25],[.s 26],rfl,[.s 26],[.s 27],rfl,[.s 26],[.s 28],rfl,[.s 26],[.s 29],rfl,[.s 29],[.s 30],rfl,[.s 29],[.s 31],rfl,[.s 29],[.s 32],rfl,[.s 29],[.s 33],rfl,[.s 29],[.s 34],rfl,[.s 29],[.s 35],rfl,[.s 29],[.s 36],rfl,[.s 29],[.s 37],rfl,[.s 29],[.s 38],rfl,[.s 29],[.s 39],rfl,[.s 29],[.s 40],rfl,[.s 29],[.s 41],rfl,[.s 26],[.s 42],rfl,[.s 26,.s 42],[.s 43],rfl,?_⟩,fun w5=>⟨[.s 17,.s 0],[.s 18],rfl,[.s 17,.s 3],[.s 19],rfl,[.s 17,.s 18,.s 19],[.s 20],rfl,⟨?_,?_⟩,[.s 17,.s 20],[.s 21],rfl,[.s 17,.s 21],[.s 22],rfl,[.s 17,.s 22],[.s 23],rfl,⟨⟨aa,aa,aa,aa⟩,aa⟩,?_,fun x6 w7=>⟨[.s 17,.s 23],[.s 24],rfl,[.s 17,.s 24],[.s 25],rfl,[.s 25],[.s 26],rfl,aa,fun w8=>⟨[.s 26],[.s 27],rfl,[.s 26],[.s 28],rfl,[.s 26],[.s 29],rfl,[.s 29],[.s 30],rfl,[.s 29],[.s 31],rfl,[.s 29],[.s 32],rfl,[.s 29],[.s 33],rfl,[.s 29],[.s 34],rfl,[.s 29],[.s 35],rfl,[.s 29],[.s 36],rfl,[.s 29],[.s 37],rfl,[.s 29],[.s 38],rfl,[.s 29],[.s 39],rfl,[.s 29],[.s 40],rfl,[.s 29],[.s 41],rfl,[.s 26],[.s 42],rfl,[.s 26,.s 42],[.s 43],rfl,?_⟩,fun w9=>⟨[.s 26,.s 3],[.s 27],rfl,[.s 26,.s 27],[.s 28],rfl,[.s 26,.s 28],[.s 29],rfl,aa,fun dq=>⟨[.s 29,.s 0],[.s 30],rfl,[.s 29,.s 3],[.s 31],rfl,[.s 29,.s 31],[.s 32],rfl,⟨?_,?_⟩,[.s 29,.s 30,.s 32],[.s 33],rfl,⟨?_,?_⟩,[.s 29,.s 33],[.s 34],rfl,[.s 29,.s 34],[.s 35],rfl,[.s 29,.s 0],[.s 36],rfl,[.s 29,.s 3],[.s 37],rfl,[.s 29,.s 36,.s 37],[.s 38],rfl,⟨?_,?_⟩,[.s 29,.s 38],[.s 39],rfl,[.s 29,.s 39],[.s 40],rfl,[.s 29,.s 35,.s 40],[.s 41],rfl,[.s 26,.s 29,.s 41],[.s 42],rfl,[.s 26,.s 42],[.s 43],rfl,fun kk=>?_,fun dI=>⟨⟨?_,?_⟩,?_⟩⟩,fun iJ=>⟨[.s 29],[.s 30],rfl,[.s 29],[.s 31],rfl,[.s 29],[.s 32],rfl,[.s 29],[.s 33],rfl,[.s 29],[.s 34],rfl,[.s 29],[.s 35],rfl,[.s 29],[.s 36],rfl,[.s 29],[.s 37],rfl,[.s 29],[.s 38],rfl,[.s 29],[.s 39],rfl,[.s 29],[.s 40],rfl,[.s 29],[.s 41],rfl,[.s 26,.s 29,.s 41],[.s 42],rfl,[.s 26,.s 42],[.s 43],rfl,⟨?_,?_⟩,?_⟩⟩⟩⟩⟩⟩,fun gI=>?_⟩
 all_goals first|refine aw ?_|refine ax ?_|exact ba|(dsimp only [dE,gX];omega)|(dsimp only [ow,mV];omega)|exact a8|exact hE.at _|exact bU w1|skip
 ·obtain⟨g,rfl⟩:=hg w1
  have e:eG l=false:=vU (by rw [←he];exact P7 (afb (show (!(fD (nth aK l k).1))=true from w4)))
  refine⟨[],[],_,_,_,rfl,az,(),aa,?_,?_,rfl⟩
  ·(show _=eZ l);unfold eZ;first|(rw [e];rfl)|rfl
  ·rfl
 ·obtain⟨g,rfl⟩:=hg w1
  have e:eG l=false:=vU (by rw [←he];exact P7 (afa (show (!(iC (nth aK l k).2 1 15))=true from w8)))
  refine⟨[],[],_,_,_,rfl,az,(),aa,?_,?_,rfl⟩
  ·(show _=eZ l);unfold eZ;first|(rw [e];rfl)|rfl
  ·rfl
 ·obtain⟨g,rfl⟩:=hg w1
  have e:eG l=false:=vU (by rw [←he];exact P7 (ae9 dq kk))
  refine⟨[],[],_,_,_,rfl,az,(),aa,?_,?_,rfl⟩
  ·(show _=eZ l);unfold eZ;first|(rw [e];rfl)|rfl
  ·rfl
 ·obtain⟨g,rfl⟩:=hg w1
  refine⟨(k+1,g),[],?_,?_,?_⟩
  rotate_right
  ·exact bX
  ·exact⟨by show k+1+g=l.length;omega,by rw [←he];exact (YC (acs (show (!(fD (nth aK l k).1))=false from w5) (show (!(iC (nth aK l k).2 1 15))=false from w9) dI)).symm⟩
  ·exact ZE0 g
 ·obtain⟨g,rfl⟩:=hg w1
  refine⟨(k+1,g),[],?_,?_,?_⟩
  rotate_right
  ·exact bX
  ·exact⟨by show k+1+g=l.length;omega,by rw [←he];exact (YC (afc (show (!(fD (nth aK l k).1))=false from w5) (show (!(iC (nth aK l k).2 1 15))=false from w9) iJ)).symm⟩
  ·exact ZE0 g
 ·have hf:f=0:=by have:=aA (p:=(k:Int)<(l.length:Int)) gI;omega
  subst hf
  have e:eG l=decide ((l.length:Int)≤12):=UQ (by rw [←he];rfl)
  refine⟨[],[],_,_,_,rfl,az,(),aa,?_,?_,rfl⟩
  ·(show _=eZ l);unfold eZ;first|(rw [e];rfl)|rfl
  ·rfl
def akw (e:eW):ByteArray:=e.1++⟨#[61]⟩++ca e.2++⟨#[59]⟩
def rz (out:ByteArray) (e:eW):ByteArray:=out++e.1++⟨#[61]⟩++ca e.2++⟨#[59]⟩
def en (l:List eW):ByteArray:=l.foldl rz ⟨#[]⟩
theorem szl {a b:ByteArray}(ha:a.size≤2001000100) (hb:b.size≤1000000):((a.size+b.size:Nat):Int)≤imax:=by
 unfold imax;omega
structure acC (l:List eW):Prop where
 len:l.length≤1000
 sz:∀e∈l,e.1.size≤1000000
 id:∀e∈l,0≤e.2∧e.2≤999999999
def qd (l:List eW):Prop:=acC l
def yd (l:List eW):AV:=.s (.str (en l))
def abz (l:List eW):List AV:=[]
def qE:Con where
 A:=[.s (.vz aK)]
 B:=[]
 pre:=fun x b=>qd x
 α:=fun _ _=>Unit
 φ:=fun _ _ _=>True
 r:=fun x b _=>yd x
 o:=fun x b _=>abz x
 nf:=0
set_option maxRecDepth 100000 in
theorem IV:Has Tryz.prog 129 qE:=by
 refine Has.ofE (fun _=>true) (fun _=>false) (fun _=>false) (l:=[(117,j6)]) ⟨wZ,trivial⟩ (fn:=Tryz.f129) Tryz.func129 rfl (by decide) (aZ rfl) ?_
 rintro (l:List eW) _ (hp:qd l)
 show vc _ _ _ _ (entry [.s (.vz aK l)] []) _
 have hE:acC l:=hp
 have hlen:=hE.len
 refine ?_
 all_goals first|refine aw ?_|refine ax ?_|exact ba|(dsimp only [j6,mQ];omega)|exact a8|skip
 refine cO (l:=[(117,j6)]) (ex:=fun _=>true) (wr:=fun _=>false) (pt:=fun _=>false) ⟨wZ,aa⟩ [.s 0] (fun y:Nat×ByteArray=>[(.s 3,.str y.2),(.s 4,.int y.1)]) (fun y=>y.1≤l.length∧y.2.size≤2000000*y.1∧(l.drop y.1).foldl rz y.2=en l) (fun y=>l.length-y.1) (0,⟨#[]⟩) [] ⟨ZA8 _,ZA8 _,rfl⟩ dN ?_
 rintro⟨i,out⟩ ⟨(hi:i≤l.length),(ho:out.size≤2000000*i),(hr:(l.drop i).foldl rz out=en l)⟩
 have bU:decide ((i:Int)<(l.length:Int))=true→i<l.length:=fun h=>by have:=aE h;omega
 have dk:i<l.length→(nth aK l i).1.size≤1000000:=fun h=>hE.sz _ (bT (ek:=aK) h)
 have hid:i<l.length→0≤(nth aK l i).2∧(nth aK l i).2≤999999999:=fun h=>hE.id _ (bT (ek:=aK) h)
 have aia:i<l.length→(ca (nth aK l i).2).size≤12:=fun h=>dc (ZE1 (hid h).2 (by omega))
 have hs1:i<l.length→(out++(nth aK l i).1).size≤2001000000:=fun h=>by rw [ZB3];have:=dk h;omega
 have hs2:i<l.length→(out++(nth aK l i).1++(⟨#[61]⟩:ByteArray)).size≤2001000001:=fun h=>by rw [ZB3,sz1];have:=hs1 h;omega
 have hs3:i<l.length→(out++(nth aK l i).1++(⟨#[61]⟩:ByteArray)++ca (nth aK l i).2).size≤2001000100:=fun h=>by rw [ZB3];have:=hs2 h;have:=aia h;omega
 have hA:i<l.length→(0:Int)≤(nth aK l i).2:=fun h=>(hid h).1
 have hB:i<l.length→((nth aK l i).2:Int)≤999999999999:=fun h=>ZE1 (hid h).2 (by omega)
 refine⟨fun w1=>⟨[.s 3],[.s 11],rfl,[.s 0],[.s 12],rfl,[.s 4],[.s 13],rfl,[.s 12,.s 13],[.s 14],rfl,⟨?_,?_⟩,[.s 14],[.s 15],rfl,[.s 15],[.s 16],rfl,[.s 11,.s 16],[.s 17],rfl,?_,[.s 17],[.s 18],rfl,?_,[.s 0],[.s 19],rfl,[.s 4],[.s 20],rfl,[.s 19,.s 20],[.s 21],rfl,⟨?_,?_⟩,[.s 21],[.s 22],rfl,[.s 22],[.s 23],rfl,[.s 23],[.s 24],rfl,⟨⟨aa,aa⟩,?_,?_⟩,?_,fun x2 w3=>⟨[.s 18,.s 24],[.s 25],rfl,?_,[.s 25],[.s 26],rfl,?_,[.s 26],[.s 3],rfl,⟨?_,?_⟩,?_⟩⟩,fun w4=>?_⟩
 all_goals first|refine aw ?_|refine ax ?_|exact ba|(dsimp only [j6,mQ];omega)|exact a8|exact bU w1|(unfold imax;simp only [ZB3,ZA5,sz1];have:=dk (bU w1);have:=aia (bU w1);omega)|skip
 ·exact hB (bU w1)
 ·have mz:=bU w1
  refine⟨(i+1,rz out (nth aK l i)),[],?_,?_,?_⟩
  rotate_right
  ·exact bX
  ·refine⟨mz,?_,by rw [←hr,bZ (ek:=aK) mz];rfl⟩
   show (out++(nth aK l i).1++⟨#[61]⟩++ca (nth aK l i).2++⟨#[59]⟩).size≤2000000*(i+1)
   have a1:=dk mz;have a2:=aia mz
   simp only [ZB3]
   rw [show (⟨#[61]⟩:ByteArray).size=1 from rfl,show (⟨#[59]⟩:ByteArray).size=1 from rfl];omega
  ·show l.length-(i+1)<l.length-i;omega
 ·have FX:¬i<l.length:=by have:=aA (p:=(i:Int)<(l.length:Int)) (by assumption);omega
  have e:en l=out:=by rw [←hr,ZB4 (by omega)];rfl
  refine⟨[],[],_,_,_,rfl,az,(),aa,?_,?_,rfl⟩
  ·(show _=yd l);unfold yd;first|(rw [e];rfl)|rfl
  ·rfl
def atF:Nat→List eW→Nat→ByteArray→Int
 |0,_,_,_=> -1
 |f+1,l,i,name=>bif decide ((nth aK l i).1=name) then (i:Int) else atF f l (i+1) name
def lE (l:List eW) (name:ByteArray):Int:=atF l.length l 0 name
theorem ahq {f:Nat}{l:List eW}{i:Nat}{name:ByteArray}(h:decide ((nth aK l i).1=name)=true):atF (f+1) l i name=(i:Int):=by rw [atF,h];rfl
theorem ahr {f:Nat}{l:List eW}{i:Nat}{name:ByteArray}(h:decide ((nth aK l i).1=name)=false):atF (f+1) l i name=atF f l (i+1) name:=by rw [atF,h];rfl
def ph (l:List eW) (name:ByteArray):Prop:=l.length≤1000000
def sd (l:List eW) (name:ByteArray):AV:=.s (.int (lE l name))
def adt (l:List eW) (name:ByteArray):List AV:=[]
def o8:Con where
 A:=[.s (.vz aK),.s .str]
 B:=[]
 pre:=fun x b=>ph (x.1) (x.2)
 α:=fun _ _=>Unit
 φ:=fun _ _ _=>True
 r:=fun x b _=>sd (x.1) (x.2)
 o:=fun x b _=>adt (x.1) (x.2)
 nf:=0
set_option maxRecDepth 100000 in
theorem FT:Has Tryz.prog 106 o8:=by
 refine Has.ofE (fun _=>true) (fun _=>false) (fun _=>false) (l:=[]) trivial (fn:=Tryz.f106) Tryz.func106 rfl (by decide) (aZ rfl) ?_
 rintro⟨(l:List eW),(name:ByteArray)⟩ _ (hp:ph l name)
 show vc _ _ _ _ (entry [.s (.vz aK l),.str name] []) _
 have hlen:l.length≤1000000:=hp
 refine cO (l:=[]) (ex:=fun _=>true) (wr:=fun _=>false) (pt:=fun _=>false) trivial [.s 0,.s 1] (fun y:Nat×Nat=>[(.s 5,.int y.1)]) (fun y=>y.1+y.2=l.length∧atF y.2 l y.1 name=lE l name) (fun y=>y.2) (0,l.length) [] ⟨ZA7 _,rfl⟩ dN ?_
 rintro⟨k,f⟩ ⟨(hk:k+f=l.length),(he:atF f l k name=lE l name)⟩
 have bU:decide ((k:Int)<(l.length:Int))=true→k<l.length:=fun h=>by have:=aE h;omega
 have hg:decide ((k:Int)<(l.length:Int))=true→∃g,f=g+1:=fun h=>⟨f-1,by have:=bU h;omega⟩
 refine⟨fun w1=>⟨⟨?_,?_⟩,⟨fun w2=>?_,fun w3=>⟨⟨?_,?_⟩,?_⟩⟩⟩,fun w4=>?_⟩
 all_goals first|refine aw ?_|refine ax ?_|exact ba|exact a8|exact bU w1|skip
 ·obtain⟨g,rfl⟩:=hg w1
  have e:lE l name=(k:Int):=by rw [←he];exact ahq w2
  refine⟨[],[],_,_,_,rfl,az,(),aa,?_,?_,rfl⟩
  ·(show _=sd l name);unfold sd;first|(rw [e];rfl)|rfl
  ·rfl
 ·obtain⟨g,rfl⟩:=hg w1
  refine⟨(k+1,g),[],?_,?_,?_⟩
  rotate_right
  ·exact bX
  ·exact⟨by show k+1+g=l.length;omega,by rw [←he];exact (ahr w3).symm⟩
  ·exact ZE0 g
 ·have hf:f=0:=by have:=aA (p:=(k:Int)<(l.length:Int)) w4;omega
  subst hf
  have e:lE l name= -1:=by rw [←he];rfl
  refine⟨[],[],_,_,_,rfl,az,(),aa,?_,?_,rfl⟩
  ·(show _=sd l name);unfold sd;first|(rw [e];rfl)|rfl
  ·rfl
def FC (e x:eW) (done:Bool):Bool:= !done&& !(Op.bytesLess x.1.toList e.1.toList||x.1.toList==e.1.toList)
def xA:List eW→eW→Bool→List eW→List eW×Bool
 |[],_,done,out=>(out,done)
 |x::l,e,done,out=>bif FC e x done then xA l e true (out++[e]++[x]) else xA l e done (out++[x])
def wv (e:eW) (r:List eW×Bool):List eW:=bif !r.2 then r.1++[e] else r.1
def qW (l:List eW) (e:eW):List eW:=wv e (xA l e false [])
theorem YY {x e:eW}{l out:List eW}{done:Bool}(h:FC e x done=true):xA (x::l) e done out=xA l e true (out++[e]++[x]):=by rw [xA,h];rfl
theorem QH {x e:eW}{l out:List eW}{done:Bool}(h:FC e x done=false):xA (x::l) e done out=xA l e done (out++[x]):=by rw [xA,h];rfl
def qe (l:List eW) (e:eW):Prop:=l.length≤1000
def pN (l:List eW) (e:eW):AV:=.s (.xs 0 2 0 (qW l e).length)
def sr (l:List eW) (e:eW):List AV:=[.rs aK (qW l e)]
def qF:Con where
 A:=[.s (.vz aK),.a [.str,.int]]
 B:=[]
 pre:=fun x b=>qe (x.1) (x.2)
 α:=fun _ _=>Unit
 φ:=fun _ _ _=>True
 r:=fun x b _=>pN (x.1) (x.2)
 o:=fun x b _=>sr (x.1) (x.2)
 nf:=1
set_option maxRecDepth 100000 in
theorem IW:Has Tryz.prog 100 qF:=by
 refine Has.ofE (fun _=>true) (fun _=>false) (fun _=>false) (l:=[]) trivial (fn:=Tryz.f100) Tryz.func100 rfl (by decide) (aZ rfl) ?_
 rintro⟨(l:List eW),⟨(e1:ByteArray),(e2:Int)⟩⟩ _ (hp:qe l (e1,e2))
 show vc _ _ _ _ (entry [.s (.vz aK l),.a [.str e1,.int e2]] []) _
 have hlen:l.length≤1000:=hp
 refine⟨aa,?_⟩
 all_goals first|refine aw ?_|refine ax ?_|exact ba|exact a8|skip
 refine cO (l:=[]) (ex:=fun _=>true) (wr:=fun _=>false) (pt:=fun _=>false) trivial [.s 0,.s 3,.b 1003] (fun y:Nat×List eW×Bool=>[(.s 5,.s (.xs 1008 2 0 y.2.1.length)),(.s 6,.s (.q y.2.2)),(.s 7,.int y.1),(.b 1008,.rs aK y.2.1)]) (fun y=>y.1≤l.length∧y.2.1.length≤2*y.1∧xA (l.drop y.1) (e1,e2) y.2.2 y.2.1=xA l (e1,e2) false []) (fun y=>l.length-y.1) (0,[],false) [] ⟨ZA8 _,ZA8 _,rfl⟩ dN ?_
 rintro⟨i,out,dn⟩ ⟨(hi:i≤l.length),(ho:out.length≤2*i),(hr:xA (l.drop i) (e1,e2) dn out=xA l (e1,e2) false [])⟩
 have bU:decide ((i:Int)<(l.length:Int))=true→i<l.length:=fun h=>by have:=aE h;omega
 refine⟨fun w1=>⟨[.s 6],[.s 15],rfl,[.s 15],[.s 16],rfl,[.s 16],[.s 17],rfl,aa,fun w2=>⟨[.s 17,.s 0],[.s 18],rfl,[.s 17,.s 7],[.s 19],rfl,[.s 17,.s 18,.s 19],[.s 20],rfl,⟨?_,?_⟩,[.s 17,.s 20],[.s 21],rfl,[.s 17,.s 21],[.s 22],rfl,[.s 17,.s 3],[.s 23],rfl,[.s 17,.s 23,.b 1003],[.s 24],rfl,[.s 17,.s 22,.s 24],[.s 25],rfl,[.s 17,.s 25],[.s 26],rfl,fun w3=>⟨aa,⟨⟨?_,?_⟩,?_,?_⟩,⟨?_,?_⟩,aa,⟨⟨?_,?_⟩,?_,?_⟩,⟨?_,?_⟩,?_⟩,fun w4=>⟨⟨?_,?_⟩,aa,⟨⟨?_,?_⟩,?_,?_⟩,⟨?_,?_⟩,?_⟩⟩,fun w5=>⟨[.s 17],[.s 18],rfl,[.s 17],[.s 19],rfl,[.s 17],[.s 20],rfl,[.s 17],[.s 21],rfl,[.s 17],[.s 22],rfl,[.s 17],[.s 23],rfl,[.s 17],[.s 24],rfl,[.s 17],[.s 25],rfl,[.s 17,.s 25],[.s 26],rfl,⟨?_,?_⟩,aa,⟨⟨?_,?_⟩,?_,?_⟩,⟨?_,?_⟩,?_⟩⟩,fun w6=>⟨fun w7=>⟨aa,⟨⟨?_,?_⟩,?_,?_⟩,?_⟩,fun w8=>?_⟩⟩
 all_goals first|refine aw ?_|refine ax ?_|exact ba|exact a8|exact bU w1|skip
 ·have mz:=bU w1
  have hb:FC (e1,e2) (nth aK l i) dn=true:=by unfold FC;rw [show (!dn)=true from w2,show (!(Op.bytesLess (nth aK l i).1.toList e1.toList||(nth aK l i).1.toList==e1.toList))=true from w3];rfl
  refine⟨(i+1,out++[(e1,e2)]++[nth aK l i],true),[(1008,1037)],?_,?_,?_⟩
  rotate_right
  ·exact bX
  ·refine⟨mz,by show (out++[(e1,e2)]++[nth aK l i]).length≤2*(i+1);rw [ZA0,ZA0];show out.length+1+1≤_;omega,?_⟩
   rw [←hr,bZ (ek:=aK) mz,YY hb]
  ·show l.length-(i+1)<l.length-i;omega
 ·have mz:=bU w1
  have hb:FC (e1,e2) (nth aK l i) dn=false:=by unfold FC;rw [show (!(Op.bytesLess (nth aK l i).1.toList e1.toList||(nth aK l i).1.toList==e1.toList))=false from w4,ZD8]
  refine⟨(i+1,out++[nth aK l i],dn),[(1008,1037)],?_,?_,?_⟩
  rotate_right
  ·exact bX
  ·refine⟨mz,by show (out++[nth aK l i]).length≤2*(i+1);rw [ZA0];show out.length+1≤_;omega,?_⟩
   rw [←hr,bZ (ek:=aK) mz,QH hb]
  ·show l.length-(i+1)<l.length-i;omega
 ·have mz:=bU w1
  have hb:FC (e1,e2) (nth aK l i) dn=false:=by unfold FC;rw [show (!dn)=false from w5];rfl
  refine⟨(i+1,out++[nth aK l i],dn),[(1008,1037)],?_,?_,?_⟩
  rotate_right
  ·exact bX
  ·refine⟨mz,by show (out++[nth aK l i]).length≤2*(i+1);rw [ZA0];show out.length+1≤_;omega,?_⟩
   rw [←hr,bZ (ek:=aK) mz,QH hb]
  ·show l.length-(i+1)<l.length-i;omega
 ·have FX:¬i<l.length:=by have:=aA (p:=(i:Int)<(l.length:Int)) w6;omega
  have e:qW l (e1,e2)=out++[(e1,e2)]:=by unfold qW;rw [←hr,ZB4 (by omega)];show wv (e1,e2) (out,dn)=_;unfold wv;rw [show (!dn)=true from w7];rfl
  refine⟨[1043],[],_,_,_,rfl,az,(),aa,?_,?_,rfl⟩
  ·(show _=pN l (e1,e2));unfold pN;first|(rw [e,ZA0];rfl)|(rw [e];rfl)|rfl
  ·(show _=sr l (e1,e2));unfold sr;first|(rw [e,ZA0];rfl)|(rw [e];rfl)|rfl
 ·have FX:¬i<l.length:=by have:=aA (p:=(i:Int)<(l.length:Int)) w6;omega
  have e:qW l (e1,e2)=out:=by unfold qW;rw [←hr,ZB4 (by omega)];show wv (e1,e2) (out,dn)=_;unfold wv;rw [show (!dn)=false from w8];rfl
  refine⟨[1008],[],_,_,_,rfl,az,(),aa,?_,?_,rfl⟩
  ·(show _=pN l (e1,e2));unfold pN;first|(rw [e];rfl)|rfl
  ·(show _=sr l (e1,e2));unfold sr;first|(rw [e];rfl)|rfl
def ez (l:List eW) (i:Nat):List eW:=l.take i++l.drop (i+1)
def rh (l:List eW) (i:Int):Prop:=l.length≤1000∧0≤i∧i<l.length
def va (l:List eW) (i:Int):AV:=.s (.xs 0 2 0 (ez l i.toNat).length)
def yA (l:List eW) (i:Int):List AV:=[.rs aK (ez l i.toNat)]
def sP:Con where
 A:=[.s (.vz aK),.s .int]
 B:=[]
 pre:=fun x b=>rh (x.1) (x.2)
 α:=fun _ _=>Unit
 φ:=fun _ _ _=>True
 r:=fun x b _=>va (x.1) (x.2)
 o:=fun x b _=>yA (x.1) (x.2)
 nf:=1
set_option maxRecDepth 100000 in
theorem MO:Has Tryz.prog 105 sP:=by
 refine Has.ofE (fun _=>true) (fun _=>false) (fun _=>false) (l:=[]) trivial (fn:=Tryz.f105) Tryz.func105 rfl (by decide) (aZ rfl) ?_
 rintro⟨(l:List eW),(i:Int)⟩ _ (hp:rh l i)
 show vc _ _ _ _ (entry [.s (.vz aK l),.int i] []) _
 obtain⟨h1,h2,h3⟩:=hp
 have e:ez l i.toNat=l.take (i.toNat-0)++l.drop (i+1).toNat:=by unfold ez;rw [Nat.sub_zero,show (i+1).toNat=i.toNat+1 by omega]
 have hl1:(l.take (i.toNat-0)).length≤1000:=by rw [ZB8];omega
 have hl2:((l.drop (i+1).toNat).take (l.length-(i+1).toNat)).length≤1000:=by rw [ZB8,ZD0];omega
 refine⟨[.b 1005],[.s 5,.b 1005],rfl,aa,[.s 0],[.s 6],rfl,[.s 1],[.s 7],rfl,[.s 6,.s 7],[.s 8],rfl,⟨?_,?_,?_⟩,[.s 5,.s 8,.b 1005,.b 1009],[.s 9,.b 1009,.b 1005],rfl,⟨⟨?_,?_⟩,aa⟩,[.s 0],[.s 10],rfl,[.s 1],[.s 11],rfl,[.s 11],[.s 12],rfl,⟨?_,?_⟩,[.s 10,.s 12],[.s 13],rfl,⟨?_,?_,?_⟩,[.s 9,.s 13,.b 1009,.b 1014],[.s 14,.b 1014,.b 1009],rfl,⟨⟨?_,?_⟩,aa⟩,[.s 14],[.s 4],rfl,?_⟩
 all_goals first|refine aw ?_|refine ax ?_|exact ba|exact a8|(show 0+(l.take (i.toNat-0)).length≤1048576;omega)|(show ([]++l.take (i.toNat-0)).length+((l.drop (i+1).toNat).take (l.length-(i+1).toNat)).length≤1048576;rw [ZC9];omega)|skip
 ·have e2:(ez l i.toNat).length=([]++l.take (i.toNat-0)).length+((l.drop (i+1).toNat).take (l.length-(i+1).toNat)).length:=by rw [e,ZA0,ZC9,ZD1 (l:=l.drop _) (by rw [ZD0];omega)]
  have e3:ez l i.toNat=([]++l.take (i.toNat-0))++((l.drop (i+1).toNat).take (l.length-(i+1).toNat)):=by rw [e,ZC9,ZD1 (l:=l.drop _) (by rw [ZD0];omega)]
  refine⟨[1014],[],_,_,_,rfl,az,(),aa,?_,?_,rfl⟩
  ·(show _=va l i);unfold va;first|(rw [e2];rfl)|(rw [e3];rfl)|rfl
  ·(show _=yA l i);unfold yA;first|(rw [e2];rfl)|(rw [e3];rfl)|rfl
end GL
namespace GL
def ka:List Pt→ay→ay
 |[],s=>s
 |p::l,s=>ka l (gf s p.1.toNat)
def ajk (u:ay):ay:=(u.rows,u.refs,u.last,u.ck+1,[],u.bY,u.dead,u.same)
def ik (s:ay):ay:=ajk (ka s.gone s)
structure ay.gk (s:ay):Prop where
 n:s.n64
 len:s.gone.length≤1000000
 ok:∀p∈s.gone,0≤p.1∧p.1<64
 ck: -1000000≤s.ck∧s.ck≤1000000
def jm (S:ay):Prop:=S.gk
def yc (S:ay):AV:=.a (k9 0 1 2 5 4 (ik S))
def CD (S:ay):List AV:=[.rs ab (ik S).rows,.rs ag (ik S).refs,.rs ag (ik S).last,.rs ae S.gone,.rs ae (ik S).dead,.rs ae []]
def ib:Con where
 A:=[.a (stB 0 1 2 3 4)]
 B:=[.r ab,.r ag,.r ag,.r ae,.r ae]
 pre:=fun x b=>whole x.1 x.2.1 x.2.2.1 x.2.2.2.2.1 x.2.2.2.2.2.2.1 (b.1) (b.2.1) (b.2.2.1) (b.2.2.2.1) (b.2.2.2.2)∧jm ((b.1,b.2.1,b.2.2.1,x.2.2.2.1,b.2.2.2.1,x.2.2.2.2.2.1,b.2.2.2.2,x.2.2.2.2.2.2.2))
 α:=fun _ _=>Unit
 φ:=fun _ _ _=>True
 r:=fun x b _=>yc ((b.1,b.2.1,b.2.2.1,x.2.2.2.1,b.2.2.2.1,x.2.2.2.2.2.1,b.2.2.2.2,x.2.2.2.2.2.2.2))
 o:=fun x b _=>CD ((b.1,b.2.1,b.2.2.1,x.2.2.2.1,b.2.2.2.1,x.2.2.2.2.2.1,b.2.2.2.2,x.2.2.2.2.2.2.2))
 nf:=1
set_option maxRecDepth 100000 in
theorem sG:Has Tryz.prog 20 ib:=by
 refine Has.ofE (fun _=>true) (fun _=>false) (fun _=>false) (l:=[(51,qC)]) ⟨IS,trivial⟩ (fn:=Tryz.f20) Tryz.func20 rfl (by decide) (aZ rfl) ?_
 rintro⟨(A3:Nat),(A2:Nat),(A1:Nat),(ao:Int),(AZ:Nat),(aq:Int),(AY:Nat),(ar:Bool)⟩ ⟨(aj:List ByteArray),(ak:List Int),(an:List Int),(ah:List Pt),(ai:List Pt)⟩ ⟨⟨(gE:A3=List.length aj),(gD:A2=List.length ak),(gC:A1=List.length an),(gB:AZ=List.length ah),(gA:AY=List.length ai)⟩,(hp:jm (aj,ak,an,ao,ah,aq,ai,ar))⟩
 subst gE gD gC gB gA
 show vc _ _ _ _ (entry [.a [.xs 0 1 0 aj.length,.xs 1 1 0 ak.length,.xs 2 1 0 an.length,.int ao,.xs 3 5 0 ah.length,.int aq,.xs 4 5 0 ai.length,.q ar]] [.rs ab aj,.rs ag ak,.rs ag an,.rs ae ah,.rs ae ai]) _
 have hgk:ay.gk (aj,ak,an,ao,ah,aq,ai,ar):=hp
 have hgl:ah.length≤1000000:=hgk.len
 have hn:aj.length=64∧ak.length=64∧an.length=64:=hgk.n
 refine ?_
 all_goals first|refine aw ?_|refine ax ?_|exact ba|(dsimp only [qC,p6];omega)|exact a8|skip
 refine cO (l:=[(51,qC)]) (ex:=fun _=>true) (wr:=fun _=>false) (pt:=fun _=>false) ⟨IS,aa⟩ [.s 1,.s 2,.b 1002,.b 3,.b 4] (fun y:Nat×List ByteArray×List Int×List Int=>[(.s 3,.int y.1),(.b 1001,.a (k9 0 1 2 3 4 (y.2.1,y.2.2.1,y.2.2.2,ao,ah,aq,ai,ar))),(.b 0,.rs ab y.2.1),(.b 1,.rs ag y.2.2.1),(.b 2,.rs ag y.2.2.2)]) (fun y=>y.1≤ah.length∧(y.2.1.length=64∧y.2.2.1.length=64∧y.2.2.2.length=64)∧ka (ah.drop y.1) (y.2.1,y.2.2.1,y.2.2.2,ao,ah,aq,ai,ar)=ka ah (aj,ak,an,ao,ah,aq,ai,ar)) (fun y=>ah.length-y.1) (0,aj,ak,an) [] ⟨ZA8 _,hn,rfl⟩ dN ?_
 rintro⟨i,ro,rf,la⟩ ⟨(hi:i≤ah.length),⟨(h1:ro.length=64),(h2:rf.length=64),(h3:la.length=64)⟩,(hr:ka (ah.drop i) (ro,rf,la,ao,ah,aq,ai,ar)=ka ah (aj,ak,an,ao,ah,aq,ai,ar))⟩
 have bU:decide ((i:Int)<(ah.length:Int))=true→i<ah.length:=fun h=>by have:=aE h;omega
 have xM:i<ah.length→0≤(nth ae ah i).1∧(nth ae ah i).1<64:=fun h=>hgk.ok _ (bT (ek:=ae) h)
 have htx:=hgk.ck
 have ak7: -1000000≤ao:=htx.1
 have amt:ao≤1000000:=htx.2
 refine⟨fun w1=>⟨[.s 1,.b 1001],[.s 11],rfl,[.s 1],[.s 12],rfl,[.s 12,.b 1001],[.s 13],rfl,[.s 3],[.s 14],rfl,[.s 13,.s 14],[.s 15],rfl,⟨?_,?_⟩,[.s 15],[.s 16],rfl,[.s 16,.b 3],[.s 17],rfl,?_,[.s 11,.s 17,.b 0,.b 1,.b 2,.b 3,.b 4],[.s 18,.b 0,.b 1,.b 2,.b 3,.b 4],rfl,⟨⟨⟨aa,aa,aa,aa,aa,aa,aa,aa,aa⟩,aa,aa⟩,⟨?_,?_,?_,?_,?_⟩,⟨?_,?_,?_⟩,?_,?_⟩,?_,fun x2 w3=>⟨[.s 1,.s 18,.b 1001],[.b 1001],rfl,⟨?_,?_⟩,?_⟩⟩,fun w4=>⟨aa,⟨?_,?_⟩,?_⟩⟩
 all_goals first|refine aw ?_|refine ax ?_|exact ba|(dsimp only [qC,p6];omega)|exact a8|(simp only [gO,imax];omega)|exact bU w1|skip
 ·exact (xM (bU w1)).1
 ·exact (xM (bU w1)).2
 ·have mz:=bU w1
  have hdl:=xl (ro,rf,la,ao,ah,aq,ai,ar) (nth ae ah i).1.toNat
  refine⟨(i+1,(gf (ro,rf,la,ao,ah,aq,ai,ar) (nth ae ah i).1.toNat).1,(gf (ro,rf,la,ao,ah,aq,ai,ar) (nth ae ah i).1.toNat).2.1,(gf (ro,rf,la,ao,ah,aq,ai,ar) (nth ae ah i).1.toNat).2.2.1),[],?_,?_,?_⟩
  rotate_right
  ·exact bX
  ·refine⟨mz,⟨hdl.1.trans h1,hdl.2.1.trans h2,hdl.2.2.trans h3⟩,?_⟩
   rw [←hr,bZ (ek:=ae) mz];rfl
  ·show ah.length-(i+1)<ah.length-i;omega
 ·show gO≤ao+1;simp only [gO];omega
 ·show ao+1≤imax;simp only [imax];omega
 ·have FX:¬i<ah.length:=by have:=aA (p:=(i:Int)<(ah.length:Int)) w4;omega
  have e:ik (aj,ak,an,ao,ah,aq,ai,ar)=(ro,rf,la,ao+1,[],aq,ai,ar):=by
   unfold ik
   rw [show ka (ay.gone (aj,ak,an,ao,ah,aq,ai,ar)) (aj,ak,an,ao,ah,aq,ai,ar)=(ro,rf,la,ao,ah,aq,ai,ar) by
    rw [ZB4 (by omega)] at hr;exact hr.symm]
   rfl
  refine⟨[1019],[],_,_,_,rfl,az,(),aa,?_,?_,rfl⟩
  ·(show _=yc (aj,ak,an,ao,ah,aq,ai,ar));unfold yc;first|(rw [e];rfl)|rfl
  ·(show _=CD (aj,ak,an,ao,ah,aq,ai,ar));unfold CD;first|(rw [e];rfl)|rfl
def j8:Nat→ay→List Pt→List Pt→Option (List Pt)
 |0,_,_,_=>none
 |_+1,_,[],out=>some out
 |f+1,s,p::l,out=>bif au p then j8 f s l out else bif decide (p.2.2.2.2>0) then j8 f s ((bh s p p.2.2.2.2).1++l) (out++[p]) else j8 f s l (out++[p])
def allM (s:ay) (t:bf):List Pt:=(j8 40 s [t.root] []).getD []
def NO (s:ay) (t:bf):Bool:=(j8 40 s [t.root] []).isSome
def wM (S:ay) (t:bf):Prop:=S.rd∧NO S t=true
def BJ (S:ay) (t:bf):AV:=.s (.xs 0 5 0 (allM S t).length)
def HS (S:ay) (t:bf):List AV:=[.rs ae (allM S t)]
def AK:Con where
 A:=[.a xE,.a [.int,.int,.int,.int,.int,.int,.int]]
 B:=[]
 pre:=fun x b=>wM (x.1) (x.2)
 α:=fun _ _=>Unit
 φ:=fun _ _ _=>True
 r:=fun x b _=>BJ (x.1) (x.2)
 o:=fun x b _=>HS (x.1) (x.2)
 nf:=1
set_option maxRecDepth 100000 in
theorem aaa:Has Tryz.prog 134 AK:=by
 refine Has.ofE (fun _=>true) (fun _=>false) (fun d=>Nat.beq d 23) (l:=[(26,bm),(56,eg)]) ⟨cB,lA,trivial⟩ (fn:=Tryz.f134) Tryz.func134 rfl (by decide) (aZ rfl) ?_
 rintro⟨⟨(aj:List ByteArray),(ak:List Int),(an:List Int),(ao:Int),(ah:List Pt),(aq:Int),(ai:List Pt),(ar:Bool)⟩,⟨(t1:Int),(t2:Int),(t3:Int),(t4:Int),(t5:Int),(t6:Int),(t7:Int)⟩⟩ _ (hp:wM (aj,ak,an,ao,ah,aq,ai,ar) (t1,t2,t3,t4,t5,t6,t7))
 show vc _ _ _ _ (entry [.a [.vz ab aj,.vz ag ak,.vz ag an,.int ao,.vz ae ah,.int aq,.vz ae ai,.q ar],.a [.int t1,.int t2,.int t3,.int t4,.int t5,.int t6,.int t7]] []) _
 obtain⟨dG,hen⟩:=hp
 have dG:ay.rd (aj,ak,an,ao,ah,aq,ai,ar):=dG
 obtain⟨al,hal⟩:=Option.isSome_iff_exists.1 hen
 have hal:j8 40 (aj,ak,an,ao,ah,aq,ai,ar) [bf.root (t1,t2,t3,t4,t5,t6,t7)] []=some al:=hal
 have hM:allM (aj,ak,an,ao,ah,aq,ai,ar) (t1,t2,t3,t4,t5,t6,t7)=al:=by unfold allM;rw [hal];rfl
 refine⟨aa,aa,?_⟩
 all_goals first|refine aw ?_|refine ax ?_|exact ba|(dsimp only [bm,cj];omega)|(dsimp only [eg,fG];omega)|exact a8|exact dG|skip
 refine cO (l:=[(26,bm),(56,eg)]) (ex:=fun _=>true) (wr:=fun _=>false) (pt:=fun d=>Nat.beq d 23) ⟨cB,lA,trivial⟩ [.s 2,.s 3,.s 4,.b 1002,.b 1003] (fun y:Nat×List Pt×List Pt=>[(.s 5,.s (.xs 1010 5 0 y.2.2.length)),(.s 6,.s (.xs 1013 5 0 y.2.1.length)),(.b 1010,.rs ae y.2.2),(.b 1013,.rs ae y.2.1)]) (fun y=>y.1≤40∧y.2.1.length+4*y.1≤161∧y.2.2.length+y.1≤40∧j8 y.1 (aj,ak,an,ao,ah,aq,ai,ar) y.2.1 y.2.2=some al) (fun y=>y.1) (40,[bf.root (t1,t2,t3,t4,t5,t6,t7)],[]) [] ⟨ZB6 _,by show 1+4*40≤161;omega,by show 0+40≤40;omega,hal⟩ dN ?_
 rintro⟨f,td,out⟩ ⟨(hf:f≤40),(htd:td.length+4*f≤161),(oo:out.length+f≤40),(hr:j8 f (aj,ak,an,ao,ah,aq,ai,ar) td out=some al)⟩
 have bU:decide ((td.length:Int)>0)=true→0<td.length:=fun h=>by have:=aE h;omega
 have hbl:=(iI (aj,ak,an,ao,ah,aq,ai,ar) (nth ae td 0) (nth ae td 0).2.2.2.2).1
 have aaf:decide ((td.length:Int)>0)=true→∃l,td=nth ae td 0::l:=fun h=>by
  have:=bU h
  cases td with
  |nil=>simp at this
  |cons p l=>exact⟨l,rfl⟩
 have agk:∃g,f=g+1:=by
  cases f with
  |zero=>cases hr
  |succ g=>exact⟨g,rfl⟩
 refine⟨fun w1=>⟨⟨?_,?_⟩,?_,aa,⟨?_,?_,?_⟩,⟨⟨?_,?_⟩,?_⟩,⟨⟨⟨aa,aa,aa,aa,aa,aa⟩,aa⟩,aa⟩,fun x2 w3=>⟨fun w4=>?_,fun w5=>⟨aa,⟨⟨?_,?_⟩,?_,?_⟩,fun w6=>⟨⟨⟨⟨aa,aa,aa,aa,aa,aa,aa,aa,aa⟩,⟨aa,aa,aa,aa,aa,aa⟩,aa,aa⟩,?_⟩,fun x7 w8=>⟨aa,⟨⟨?_,?_⟩,?_,?_⟩,⟨⟨?_,?_⟩,?_,?_⟩,?_⟩⟩,fun w9=>?_⟩⟩⟩,fun dq=>?_⟩
 all_goals first|refine aw ?_|refine ax ?_|exact ba|(dsimp only [bm,cj];omega)|(dsimp only [eg,fG];omega)|exact a8|exact bU w1|exact dG|(show 0+(td.drop 1).length≤1048576;rw [ZD0];omega)|(show 0+((td.drop 1).take (td.length-1)).length≤1048576;rw [ZB8,ZD0];omega)|skip
 ·
  obtain⟨l,rY⟩:=aaf w1
  have eT:(([]:List Pt)++(td.drop 1).take (td.length-1))=l:=by rw [rY];simp
  obtain⟨g,rfl⟩:∃g,f=g+1:=agk
  have hll:l.length+1=td.length:=by rw [rY];rfl
  have hh:au (nth ae td 0)=true:=w4
  rw [rY,j8,hh] at hr
  refine⟨(g,(([]:List Pt)++(td.drop 1).take (td.length-1)),out),[(1013,1023)],?_,?_,?_⟩
  rotate_right
  ·exact bX
  ·exact⟨by show g≤40;omega,by show ((([]:List Pt)++(td.drop 1).take (td.length-1))).length+4*g≤161;rw [eT];omega,by show out.length+g≤40;omega,by show j8 g (aj,ak,an,ao,ah,aq,ai,ar) (([]:List Pt)++(td.drop 1).take (td.length-1)) out=some al;rw [eT];exact hr⟩
  ·exact ZE0 g
 ·show ([]:List Pt).length+(bh (aj,ak,an,ao,ah,aq,ai,ar) (nth ae td 0) (nth ae td 0).2.2.2.2).1.length≤1048576;have:=hbl;show 0+_≤_;omega
 ·obtain⟨l,rY⟩:=aaf w1
  have eT:(([]:List Pt)++(td.drop 1).take (td.length-1))=l:=by rw [rY];simp
  have hll:l.length+1=td.length:=by rw [rY];rfl
  show (([]:List Pt)++(bh (aj,ak,an,ao,ah,aq,ai,ar) (nth ae td 0) (nth ae td 0).2.2.2.2).1).length+(([]:List Pt)++(td.drop 1).take (td.length-1)).length≤1048576
  rw [eT,ZC9];omega
 ·
  obtain⟨l,rY⟩:=aaf w1
  have eT:(([]:List Pt)++(td.drop 1).take (td.length-1))=l:=by rw [rY];simp
  obtain⟨g,rfl⟩:∃g,f=g+1:=agk
  have hll:l.length+1=td.length:=by rw [rY];rfl
  have hh:au (nth ae td 0)=false:=w5
  rw [rY,j8,hh,show decide ((nth ae td 0).2.2.2.2>0)=true from w6] at hr
  refine⟨(g,(([]:List Pt)++(bh (aj,ak,an,ao,ah,aq,ai,ar) (nth ae td 0) (nth ae td 0).2.2.2.2).1)++(([]:List Pt)++(td.drop 1).take (td.length-1)),out++[(nth ae td 0)]),[(1013,1045),(1010,1029)],?_,?_,?_⟩
  rotate_right
  ·exact bX
  ·refine⟨by show g≤40;omega,?_,?_,?_⟩
   ·show ((([]:List Pt)++(bh (aj,ak,an,ao,ah,aq,ai,ar) (nth ae td 0) (nth ae td 0).2.2.2.2).1)++(([]:List Pt)++(td.drop 1).take (td.length-1))).length+4*g≤161;rw [eT,ZC9,ZA0];omega
   ·show (out++[(nth ae td 0)]).length+g≤40;rw [ZA0];show out.length+1+g≤40;omega
   ·show j8 g (aj,ak,an,ao,ah,aq,ai,ar) ((([]:List Pt)++(bh (aj,ak,an,ao,ah,aq,ai,ar) (nth ae td 0) (nth ae td 0).2.2.2.2).1)++(([]:List Pt)++(td.drop 1).take (td.length-1))) (out++[(nth ae td 0)])=some al;rw [eT,ZC9];exact hr
  ·exact ZE0 g
 ·
  obtain⟨l,rY⟩:=aaf w1
  have eT:(([]:List Pt)++(td.drop 1).take (td.length-1))=l:=by rw [rY];simp
  obtain⟨g,rfl⟩:∃g,f=g+1:=agk
  have hll:l.length+1=td.length:=by rw [rY];rfl
  have hh:au (nth ae td 0)=false:=w5
  rw [rY,j8,hh,show decide ((nth ae td 0).2.2.2.2>0)=false from w9] at hr
  refine⟨(g,(([]:List Pt)++(td.drop 1).take (td.length-1)),out++[(nth ae td 0)]),[(1013,1023),(1010,1029)],?_,?_,?_⟩
  rotate_right
  ·exact bX
  ·refine⟨by show g≤40;omega,?_,?_,?_⟩
   ·show ((([]:List Pt)++(td.drop 1).take (td.length-1))).length+4*g≤161;rw [eT];omega
   ·show (out++[(nth ae td 0)]).length+g≤40;rw [ZA0];show out.length+1+g≤40;omega
   ·show j8 g (aj,ak,an,ao,ah,aq,ai,ar) (([]:List Pt)++(td.drop 1).take (td.length-1)) (out++[(nth ae td 0)])=some al;rw [eT];exact hr
  ·exact ZE0 g
 ·have h0:td=[]:=by cases td with
   |nil=>rfl
   |cons p l=>exact absurd (aA dq) (by simp)
  obtain⟨g,rfl⟩:∃g,f=g+1:=agk
  rw [h0,j8] at hr
  have e:allM (aj,ak,an,ao,ah,aq,ai,ar) (t1,t2,t3,t4,t5,t6,t7)=out:=by rw [hM];exact (ZE7 hr).symm
  refine⟨[1010],[],_,_,_,rfl,az,(),aa,?_,?_,rfl⟩
  ·(show _=BJ (aj,ak,an,ao,ah,aq,ai,ar) (t1,t2,t3,t4,t5,t6,t7));unfold BJ;first|(rw [e];rfl)|rfl
  ·(show _=HS (aj,ak,an,ao,ah,aq,ai,ar) (t1,t2,t3,t4,t5,t6,t7));unfold HS;first|(rw [e];rfl)|rfl
end GL
end Go.Proofs.YtbfgjadbfjkcdaaGreatDoor
