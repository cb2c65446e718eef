/- Part 4 of the proof of a drawn law. -/
import Derived.LoopN
import Derived.Test.YtndmmmcglebllaaGreatDoorProg
import Derived.Test.YtndmmmcglebllaaGreatDoorRac
set_option maxHeartbeats 20000000
set_option maxRecDepth 100000
set_option linter.all false
namespace Go.Proofs.YtndmmmcglebllaaGreatDoor
namespace GL
def aeL {P:Program}{t:TypeId}:∀(l:List (Nat×Bool×Nat)) (k:Nat),(l.zipIdx k).map (λp=>lD P t p.2)=l.map some->∀(f:Nat) (x:Nat×Bool×Nat),l[f]?=some x->lD P t (k+f)=some x
 |[],_,_,f,x,h=>by simp at h
 |y::l,k,h,0,x,hx=>by
  simp only [List.zipIdx_cons,ZF1,ZI3] at h
  simp at hx;subst hx
  simpa using h.1
 |y::l,k,h,f+1,x,hx=>by
  simp only [List.zipIdx_cons,ZF1,ZI3] at h
  have:=aeL l (k+1) h.2 f x (by simpa using hx)
  rwa [show k+1+f=k+(f+1) by omega] at this
def nw {P:Program}{t:TypeId}{l:List (Nat×Bool×Nat)}(h:(l.zipIdx 0).map (λp=>lD P t p.2)=l.map some):∀(f:Nat) (x:Nat×Bool×Nat),l[f]?=some x->lD P t f=some x:=λf x hx=>by
 have:=aeL l 0 h f x hx
 rwa [ZA6] at this
def abn:TI:=⟨false,1,.int .i64,[.int .i64 0],[],[]⟩
def ok_int:jB Tryz.prog 3 abn:=⟨by show Sh Tryz.prog 3=some (false,1);kernel_rfl,by show zeroOf Tryz.prog 3=some [.int .i64 0];kernel_rfl,by simp [abn],.inl rfl,by show Tryz.prog.underlying 3=some (.int .i64);kernel_rfl⟩
def T9:TI:=⟨false,1,.bool,[.bool false],[],[]⟩
def ak6:jB Tryz.prog 4 T9:=⟨by show Sh Tryz.prog 4=some (false,1);kernel_rfl,by show zeroOf Tryz.prog 4=some [.bool false];kernel_rfl,by simp [T9],.inl rfl,by show Tryz.prog.underlying 4=some .bool;kernel_rfl⟩
def LI:TI:=⟨false,1,.int .u8,[.int .u8 0],[],[]⟩
def aio:jB Tryz.prog 5 LI:=⟨by show Sh Tryz.prog 5=some (false,1);kernel_rfl,by show zeroOf Tryz.prog 5=some [.int .u8 0];kernel_rfl,by simp [LI],.inl rfl,by show Tryz.prog.underlying 5=some (.int .u8);kernel_rfl⟩
def FZ:TI:=⟨false,1,.str,[.string ByteArray.empty],[],[]⟩
def agh:jB Tryz.prog 9 FZ:=⟨by show Sh Tryz.prog 9=some (false,1);kernel_rfl,by show zeroOf Tryz.prog 9=some [.string ByteArray.empty];kernel_rfl,by simp [FZ],.inl rfl,by show Tryz.prog.underlying 9=some .string;kernel_rfl⟩
def AU:TI:=⟨false,1,.bytes 1,[.slice none 0 0],[],[]⟩
def acy:jB Tryz.prog 22 AU:=⟨by show Sh Tryz.prog 22=some (false,1);kernel_rfl,by show zeroOf Tryz.prog 22=some [.slice none 0 0];kernel_rfl,by simp [AU],.inl rfl,⟨⟨by show yJ Tryz.prog 22=some (1,1,[.int .u8 0]);kernel_rfl,by simp,by decide⟩,5,by kernel_rfl,by kernel_rfl⟩⟩
abbrev ab:EK:=[.str 4096]
def xw:TI:=⟨false,1,.slice ab 16,[.slice none 0 0],[],[]⟩
def ZV:jB Tryz.prog 23 xw:=⟨by show Sh Tryz.prog 23=some (false,1);kernel_rfl,by show zeroOf Tryz.prog 23=some [.slice none 0 0];kernel_rfl,by simp [xw],.inl rfl,⟨by show yJ Tryz.prog 23=some (1,16,[.string ByteArray.empty]);kernel_rfl,by simp,by decide⟩⟩
abbrev ag:EK:=[.i64]
def LL:TI:=⟨false,1,.slice ag 8,[.slice none 0 0],[],[]⟩
def aiu:jB Tryz.prog 24 LL:=⟨by show Sh Tryz.prog 24=some (false,1);kernel_rfl,by show zeroOf Tryz.prog 24=some [.slice none 0 0];kernel_rfl,by simp [LL],.inl rfl,⟨by show yJ Tryz.prog 24=some (1,8,[.int .i64 0]);kernel_rfl,by simp,by decide⟩⟩
def XT:TI:=⟨true,2,.other,[.slice none 0 0,.slice none 0 0],[(0,false,1),(1,false,1)],[(0,1),(1,1)]⟩
def ait:jB Tryz.prog 26 XT:=⟨by show Sh Tryz.prog 26=some (true,2);kernel_rfl,by show zeroOf Tryz.prog 26=some [.slice none 0 0,.slice none 0 0];kernel_rfl,nw (by kernel_rfl),.inr (by kernel_rfl),trivial⟩
abbrev ae:EK:=[.i64,.i64,.i64,.i64,.i64]
def LM:TI:=⟨false,1,.slice ae 40,[.slice none 0 0],[],[]⟩
def aiv:jB Tryz.prog 27 LM:=⟨by show Sh Tryz.prog 27=some (false,1);kernel_rfl,by show zeroOf Tryz.prog 27=some [.slice none 0 0];kernel_rfl,by simp [LM],.inl rfl,⟨by show yJ Tryz.prog 27=some (5,40,[.int .i64 0,.int .i64 0,.int .i64 0,.int .i64 0,.int .i64 0]);kernel_rfl,by simp,by decide⟩⟩
def xv:TI:=⟨true,8,.other,[.slice none 0 0,.slice none 0 0,.slice none 0 0,.int .i64 0,.slice none 0 0,.int .i64 0,.slice none 0 0,.bool false],[(0,false,1),(1,true,2),(3,false,1),(4,false,1),(5,false,1),(6,false,1),(7,false,1)],[(0,1),(1,2),(3,1),(4,1),(5,1),(6,1),(7,1)]⟩
def ais:jB Tryz.prog 29 xv:=⟨by show Sh Tryz.prog 29=some (true,8);kernel_rfl,by show zeroOf Tryz.prog 29=some [.slice none 0 0,.slice none 0 0,.slice none 0 0,.int .i64 0,.slice none 0 0,.int .i64 0,.slice none 0 0,.bool false];kernel_rfl,nw (by kernel_rfl),.inr (by kernel_rfl),trivial⟩
def id_Ptr : IntsD Tryz.prog 1 31 5 := ⟨by kernel_rfl, by kernel_rfl, [("At", 3, 0), ("Birth", 3, 1), ("Size", 3, 2), ("Sum", 3, 3), ("Level", 3, 4)], by kernel_rfl, by decide, rfl, .inl ⟨by kernel_rfl, by kernel_rfl, by decide, rfl, .inl ⟨by kernel_rfl, by kernel_rfl, by decide, rfl, .inl ⟨by kernel_rfl, by kernel_rfl, by decide, rfl, .inl ⟨by kernel_rfl, by kernel_rfl, by decide, rfl, .inl ⟨by kernel_rfl, by kernel_rfl, rfl⟩⟩⟩⟩⟩⟩
def ahn:TI:=⟨true,5,.ints 5,[.int .i64 0,.int .i64 0,.int .i64 0,.int .i64 0,.int .i64 0],[(0,false,1),(1,false,1),(2,false,1),(3,false,1),(4,false,1)],[(0,1),(1,1),(2,1),(3,1),(4,1)]⟩
def anj:jB Tryz.prog 31 ahn:=⟨by show Sh Tryz.prog 31=some (true,5);kernel_rfl,by show zeroOf Tryz.prog 31=some [.int .i64 0,.int .i64 0,.int .i64 0,.int .i64 0,.int .i64 0];kernel_rfl,nw (by kernel_rfl),.inr (by kernel_rfl),⟨⟨1,by decide,id_Ptr⟩,by kernel_rfl⟩⟩
def id_Tree : IntsD Tryz.prog 2 33 7 := ⟨by kernel_rfl, by kernel_rfl, [("Root", 31, 0), ("Depth", 3, 5), ("Many", 3, 6)], by kernel_rfl, by decide, rfl, .inr ⟨5, by kernel_rfl, id_Ptr, by decide, rfl, .inl ⟨by kernel_rfl, by kernel_rfl, by decide, rfl, .inl ⟨by kernel_rfl, by kernel_rfl, rfl⟩⟩⟩⟩
def DD:TI:=⟨true,7,.ints 7,[.int .i64 0,.int .i64 0,.int .i64 0,.int .i64 0,.int .i64 0,.int .i64 0,.int .i64 0],[(0,true,5),(5,false,1),(6,false,1)],[(0,5),(5,1),(6,1)]⟩
def ak7:jB Tryz.prog 33 DD:=⟨by show Sh Tryz.prog 33=some (true,7);kernel_rfl,by show zeroOf Tryz.prog 33=some [.int .i64 0,.int .i64 0,.int .i64 0,.int .i64 0,.int .i64 0,.int .i64 0,.int .i64 0];kernel_rfl,nw (by kernel_rfl),.inr (by kernel_rfl),⟨⟨2,by decide,id_Tree⟩,by kernel_rfl⟩⟩
def id_Node : IntsD Tryz.prog 3 42 10 := ⟨by kernel_rfl, by kernel_rfl, [("Kind", 3, 0), ("Links", 3, 1), ("Size", 3, 2), ("Tree", 33, 3)], by kernel_rfl, by decide, rfl, .inl ⟨by kernel_rfl, by kernel_rfl, by decide, rfl, .inl ⟨by kernel_rfl, by kernel_rfl, by decide, rfl, .inl ⟨by kernel_rfl, by kernel_rfl, by decide, rfl, .inr ⟨7, by kernel_rfl, id_Tree, rfl⟩⟩⟩⟩⟩
def adN:TI:=⟨true,10,.ints 10,[.int .i64 0,.int .i64 0,.int .i64 0,.int .i64 0,.int .i64 0,.int .i64 0,.int .i64 0,.int .i64 0,.int .i64 0,.int .i64 0],[(0,false,1),(1,false,1),(2,false,1),(3,true,7)],[(0,1),(1,1),(2,1),(3,7)]⟩
def ak9:jB Tryz.prog 42 adN:=⟨by show Sh Tryz.prog 42=some (true,10);kernel_rfl,by show zeroOf Tryz.prog 42=some [.int .i64 0,.int .i64 0,.int .i64 0,.int .i64 0,.int .i64 0,.int .i64 0,.int .i64 0,.int .i64 0,.int .i64 0,.int .i64 0];kernel_rfl,nw (by kernel_rfl),.inr (by kernel_rfl),⟨⟨3,by decide,id_Node⟩,by kernel_rfl⟩⟩
def adM:TI:=⟨true,2,.other,[.slice none 0 0,.int .i64 0],[(0,false,1),(1,false,1)],[(0,1),(1,1)]⟩
def ak5:jB Tryz.prog 58 adM:=⟨by show Sh Tryz.prog 58=some (true,2);kernel_rfl,by show zeroOf Tryz.prog 58=some [.slice none 0 0,.int .i64 0];kernel_rfl,nw (by kernel_rfl),.inr (by kernel_rfl),trivial⟩
abbrev gf:EK:=[.i64,.i64,.i64,.i64,.i64,.i64,.i64,.i64,.i64,.i64]
def F1:TI:=⟨false,1,.slice gf 80,[.slice none 0 0],[],[]⟩
def agj:jB Tryz.prog 64 F1:=⟨by show Sh Tryz.prog 64=some (false,1);kernel_rfl,by show zeroOf Tryz.prog 64=some [.slice none 0 0];kernel_rfl,by simp [F1],.inl rfl,⟨by show yJ Tryz.prog 64=some (10,80,[.int .i64 0,.int .i64 0,.int .i64 0,.int .i64 0,.int .i64 0,.int .i64 0,.int .i64 0,.int .i64 0,.int .i64 0,.int .i64 0]);kernel_rfl,by simp,by decide⟩⟩
abbrev JV:EK:=[.i64,.str 4096,.str 4096,.i64,.str 4096]
def UA:TI:=⟨false,1,.slice JV 64,[.slice none 0 0],[],[]⟩
def ak8:jB Tryz.prog 78 UA:=⟨by show Sh Tryz.prog 78=some (false,1);kernel_rfl,by show zeroOf Tryz.prog 78=some [.slice none 0 0];kernel_rfl,by simp [UA],.inl rfl,⟨by show yJ Tryz.prog 78=some (5,64,[.int .i64 0,.string ByteArray.empty,.string ByteArray.empty,.int .i64 0,.string ByteArray.empty]);kernel_rfl,by simp,by decide⟩⟩
def amc:TI:=⟨true,5,.other,[.int .i64 0,.string ByteArray.empty,.string ByteArray.empty,.int .i64 0,.string ByteArray.empty],[(0,false,1),(1,false,1),(2,false,1),(3,false,1),(4,false,1)],[(0,1),(1,1),(2,1),(3,1),(4,1)]⟩
def aoD:jB Tryz.prog 83 amc:=⟨by show Sh Tryz.prog 83=some (true,5);kernel_rfl,by show zeroOf Tryz.prog 83=some [.int .i64 0,.string ByteArray.empty,.string ByteArray.empty,.int .i64 0,.string ByteArray.empty];kernel_rfl,nw (by kernel_rfl),.inr (by kernel_rfl),trivial⟩
def XS:TI:=⟨true,16,.other,[.slice none 0 0,.slice none 0 0,.slice none 0 0,.int .i64 0,.slice none 0 0,.int .i64 0,.slice none 0 0,.bool false,.int .i64 0,.int .i64 0,.int .i64 0,.int .i64 0,.int .i64 0,.int .i64 0,.int .i64 0,.bool false],[(0,true,8),(8,true,7),(15,false,1)],[(0,8),(8,7),(15,1)]⟩
def aiq:jB Tryz.prog 113 XS:=⟨by show Sh Tryz.prog 113=some (true,16);kernel_rfl,by show zeroOf Tryz.prog 113=some [.slice none 0 0,.slice none 0 0,.slice none 0 0,.int .i64 0,.slice none 0 0,.int .i64 0,.slice none 0 0,.bool false,.int .i64 0,.int .i64 0,.int .i64 0,.int .i64 0,.int .i64 0,.int .i64 0,.int .i64 0,.bool false];kernel_rfl,nw (by kernel_rfl),.inr (by kernel_rfl),trivial⟩
abbrev aO:EK:=[.str 4096,.i64]
def AW:TI:=⟨false,1,.slice aO 24,[.slice none 0 0],[],[]⟩
def acz:jB Tryz.prog 146 AW:=⟨by show Sh Tryz.prog 146=some (false,1);kernel_rfl,by show zeroOf Tryz.prog 146=some [.slice none 0 0];kernel_rfl,by simp [AW],.inl rfl,⟨by show yJ Tryz.prog 146=some (2,24,[.string ByteArray.empty,.int .i64 0]);kernel_rfl,by simp,by decide⟩⟩
def XU:TI:=⟨true,2,.other,[.string ByteArray.empty,.int .i64 0],[(0,false,1),(1,false,1)],[(0,1),(1,1)]⟩
def aiw:jB Tryz.prog 153 XU:=⟨by show Sh Tryz.prog 153=some (true,2);kernel_rfl,by show zeroOf Tryz.prog 153=some [.string ByteArray.empty,.int .i64 0];kernel_rfl,nw (by kernel_rfl),.inr (by kernel_rfl),trivial⟩
def F0:TI:=⟨false,1,.arr 8,[.slice none 0 0],[],[]⟩
def agi:jB Tryz.prog 135 F0:=⟨by show Sh Tryz.prog 135=some (false,1);kernel_rfl,by show zeroOf Tryz.prog 135=some [.slice none 0 0];kernel_rfl,by simp [F0],.inl rfl,⟨⟨.pointer none,by kernel_rfl⟩,by decide⟩⟩
def LK:TI:=⟨false,1,.iface,[.nilIface],[],[]⟩
def air:jB Tryz.prog 170 LK:=⟨by show Sh Tryz.prog 170=some (false,1);kernel_rfl,by show zeroOf Tryz.prog 170=some [.nilIface];kernel_rfl,by simp [LK],.inl rfl,by show isIface Tryz.prog 170=true;kernel_rfl⟩
def tab:TypeId->Option TI
 |3=>some abn
 |4=>some T9
 |5=>some LI
 |9=>some FZ
 |22=>some AU
 |23=>some xw
 |24=>some LL
 |26=>some XT
 |27=>some LM
 |29=>some xv
 |31=>some ahn
 |33=>some DD
 |42=>some adN
 |58=>some adM
 |64=>some F1
 |78=>some UA
 |83=>some amc
 |113=>some XS
 |146=>some AW
 |153=>some XU
 |135=>some F0
 |170=>some LK
 |_=>none
def ahs:∀t i,tab t=some i->jB Tryz.prog t i:=by
 intro t i h
 unfold tab at h
 split at h
 ·cases h;exact ok_int
 ·cases h;exact ak6
 ·cases h;exact aio
 ·cases h;exact agh
 ·cases h;exact acy
 ·cases h;exact ZV
 ·cases h;exact aiu
 ·cases h;exact ait
 ·cases h;exact aiv
 ·cases h;exact ais
 ·cases h;exact anj
 ·cases h;exact ak7
 ·cases h;exact ak9
 ·cases h;exact ak5
 ·cases h;exact agj
 ·cases h;exact ak8
 ·cases h;exact aoD
 ·cases h;exact aiq
 ·cases h;exact acz
 ·cases h;exact aiw
 ·cases h;exact agi
 ·cases h;exact air
 ·cases h
def mixed:Tryz.prog.follows .mixedOrders=true:=by kernel_rfl
end GL
namespace GL
def Has (P:Program) (f:FuncId) (c:cu):Prop:=AR P f c/\Enters P f
def look:List (FuncId×cu)->FuncId->Option cu
 |[],_=>none
 |p::l,f=>bif Nat.beq p.1 f then some p.2 else look l f
def ll (P:Program):List (FuncId×cu)->Prop
 |[]=>True
 |p::l=>Has P p.1 p.2/\ll P l
def NX {P:Program}:∀{l:List (FuncId×cu)},ll P l->∀{f:FuncId}{c:cu},look l f=some c->Has P f c
 |[],_,f,c,h=>by cases h
 |p::l,hl,f,c,h=>by
  simp only [look] at h
  cases hb:Nat.beq p.1 f with
  |true=>
   rw [hb] at h
   have:p.1=f:=by simpa using hb
   cases h
   rw [<-this];exact hl.1
  |false=>rw [hb] at h;exact NX hl.2 h
def mkE (n:Nat) (l:List (FuncId×cu)) (ex wr pt:Nat->Bool):Env:=⟨n,tab,look l,ex,wr,pt⟩
def vY {n:Nat}{l:List (FuncId×cu)}{ex wr pt:Nat->Bool}(h:ll Tryz.prog l):FM Tryz.prog (mkE n l ex wr pt):=⟨ahs,λ_ _ hc=>NX h hc⟩
abbrev zT:Nat->Bool:=λ_=>true
abbrev Sq0:List gx:=[.s 0]
abbrev Sq1:List gx:=[.s 1]
abbrev Sq2:List gx:=[.s 2]
abbrev Sq3:List gx:=[.s 3]
abbrev Sq4:List gx:=[.s 4]
abbrev Sq5:List gx:=[.s 5]
abbrev Sq6:List gx:=[.s 6]
abbrev Sq7:List gx:=[.s 7]
abbrev Sq8:List gx:=[.s 8]
abbrev Sq9:List gx:=[.s 9]
abbrev Sq10:List gx:=[.s 10]
abbrev Sq11:List gx:=[.s 11]
abbrev Sq12:List gx:=[.s 12]
abbrev Sq13:List gx:=[.s 13]
abbrev Sq14:List gx:=[.s 14]
abbrev Sq15:List gx:=[.s 15]
abbrev Sq16:List gx:=[.s 16]
abbrev Sq17:List gx:=[.s 17]
abbrev Sq18:List gx:=[.s 18]
abbrev Sq19:List gx:=[.s 19]
abbrev Sq20:List gx:=[.s 20]
abbrev Sq21:List gx:=[.s 21]
abbrev Sq22:List gx:=[.s 22]
abbrev Sq23:List gx:=[.s 23]
abbrev Sq24:List gx:=[.s 24]
abbrev Sq25:List gx:=[.s 25]
abbrev Sq26:List gx:=[.s 26]
abbrev Sq27:List gx:=[.s 27]
abbrev Sq28:List gx:=[.s 28]
abbrev Sq29:List gx:=[.s 29]
abbrev Sq30:List gx:=[.s 30]
abbrev Sq31:List gx:=[.s 31]
abbrev Sq32:List gx:=[.s 32]
abbrev Sq33:List gx:=[.s 33]
abbrev Sq34:List gx:=[.s 34]
abbrev Sq35:List gx:=[.s 35]
abbrev Sq36:List gx:=[.s 36]
abbrev Sq37:List gx:=[.s 37]
abbrev Sq38:List gx:=[.s 38]
abbrev Sq39:List gx:=[.s 39]
abbrev Sq40:List gx:=[.s 40]
abbrev Sq41:List gx:=[.s 41]
abbrev Sq42:List gx:=[.s 42]
abbrev Sq43:List gx:=[.s 43]
abbrev Sq44:List gx:=[.s 44]
abbrev Sq45:List gx:=[.s 45]
abbrev Sq46:List gx:=[.s 46]
abbrev Sq47:List gx:=[.s 47]
abbrev Sq48:List gx:=[.s 48]
abbrev Sq49:List gx:=[.s 49]
abbrev Sq50:List gx:=[.s 50]
abbrev Sq51:List gx:=[.s 51]
abbrev Sq52:List gx:=[.s 52]
abbrev Sq53:List gx:=[.s 53]
abbrev Sq54:List gx:=[.s 54]
abbrev Sq55:List gx:=[.s 55]
abbrev Sq56:List gx:=[.s 56]
abbrev Sq57:List gx:=[.s 57]
abbrev Sq58:List gx:=[.s 58]
abbrev Sq59:List gx:=[.s 59]
abbrev Sq60:List gx:=[.s 60]
abbrev Sq61:List gx:=[.s 61]
abbrev Sq62:List gx:=[.s 62]
abbrev Sq63:List gx:=[.s 63]
abbrev Sq64:List gx:=[.s 64]
abbrev Sq65:List gx:=[.s 65]
abbrev Sq66:List gx:=[.s 66]
abbrev Sq67:List gx:=[.s 67]
abbrev Sq68:List gx:=[.s 68]
abbrev Sq69:List gx:=[.s 69]
abbrev Sq70:List gx:=[.s 70]
abbrev Sq71:List gx:=[.s 71]
abbrev Sq72:List gx:=[.s 72]
abbrev Sq73:List gx:=[.s 73]
abbrev Sq74:List gx:=[.s 74]
abbrev Sq75:List gx:=[.s 75]
abbrev Sq76:List gx:=[.s 76]
abbrev Sq77:List gx:=[.s 77]
abbrev Sq78:List gx:=[.s 78]
abbrev Sq79:List gx:=[.s 79]
abbrev Sq80:List gx:=[.s 80]
abbrev Sq81:List gx:=[.s 81]
abbrev Sq82:List gx:=[.s 82]
abbrev Sq83:List gx:=[.s 83]
abbrev Sq84:List gx:=[.s 84]
abbrev Sq85:List gx:=[.s 85]
abbrev Sq86:List gx:=[.s 86]
abbrev Sq87:List gx:=[.s 87]
abbrev Sq88:List gx:=[.s 88]
abbrev Sq89:List gx:=[.s 89]
abbrev Sq90:List gx:=[.s 90]
abbrev Sq91:List gx:=[.s 91]
abbrev Sq93:List gx:=[.s 93]
abbrev Sq94:List gx:=[.s 94]
abbrev Sq113:List gx:=[.s 113]
abbrev Sq114:List gx:=[.s 114]
abbrev Sq115:List gx:=[.s 115]
abbrev Sq116:List gx:=[.s 116]
abbrev Sq117:List gx:=[.s 117]
abbrev Sq118:List gx:=[.s 118]
abbrev Sq119:List gx:=[.s 119]
abbrev Sq120:List gx:=[.s 120]
abbrev Sq121:List gx:=[.s 121]
abbrev Sq122:List gx:=[.s 122]
abbrev Sq123:List gx:=[.s 123]
abbrev Sq124:List gx:=[.s 124]
abbrev Sq125:List gx:=[.s 125]
abbrev Sq126:List gx:=[.s 126]
abbrev Sq127:List gx:=[.s 127]
abbrev Sq128:List gx:=[.s 128]
abbrev Sq129:List gx:=[.s 129]
abbrev Sq130:List gx:=[.s 130]
abbrev Sq131:List gx:=[.s 131]
abbrev Sq132:List gx:=[.s 132]
abbrev Sq133:List gx:=[.s 133]
abbrev Sq134:List gx:=[.s 134]
abbrev Sq135:List gx:=[.s 135]
abbrev Sq136:List gx:=[.s 136]
abbrev Sq137:List gx:=[.s 137]
abbrev Sq138:List gx:=[.s 138]
abbrev Sq139:List gx:=[.s 139]
abbrev Sq140:List gx:=[.s 140]
abbrev Sq141:List gx:=[.s 141]
abbrev Sq142:List gx:=[.s 142]
abbrev Sq143:List gx:=[.s 143]
abbrev Sq144:List gx:=[.s 144]
abbrev zF:Nat->Bool:=λ_=>false
def Has.fP (ex wr pt:Nat->Bool) {l:List (FuncId×cu)}(hl:ll Tryz.prog l) {f:FuncId}{fn:Func}{cd:Code}{C:cu}(hf:Tryz.prog.funcs[f]?=some fn)
  (h : ∀ x y, C.pre x y → vc Tryz.prog fn.ntmps (sem (mkE fn.ntmps l ex wr pt)) cd (entry (APs.avs C.A x) (APs.avs C.B y)) (endQ (mkE fn.ntmps l ex wr pt).sh fn.results.toList C.B.length C.mv (fun r os => ∃ z, C.φ x y z ∧ r = C.r x y z ∧ os = C.o x y z ∧ os.length = C.B.length + C.nf))) (hb : fn.body = some cd := by exact rfl) (hnm : fn.name ≠ "runtime.NumGoroutine" := by decide) (hlen : C.A.length ≤ fn.ntmps := by exact zqNlb rfl) : Has Tryz.prog f C :=
 ⟨AR.of (vY hl) mixed hf hb rfl hlen h,fn,hf,by rw [hb];rfl,hnm⟩
def Has.of {l:List (FuncId×cu)}(hl:ll Tryz.prog l) {f:FuncId}{fn:Func}{cd:Code}{C:cu}(hf:Tryz.prog.funcs[f]?=some fn)
  (h : ∀ x y, C.pre x y → vc Tryz.prog fn.ntmps (sem (mkE fn.ntmps l (fun _ => true) (fun _ => false) (fun _ => false))) cd (entry (APs.avs C.A x) (APs.avs C.B y)) (endQ (mkE fn.ntmps l (fun _ => true) (fun _ => false) (fun _ => false)).sh fn.results.toList C.B.length C.mv (fun r os => ∃ z, C.φ x y z ∧ r = C.r x y z ∧ os = C.o x y z ∧ os.length = C.B.length + C.nf))) (hb : fn.body = some cd := by exact rfl) (hnm : fn.name ≠ "runtime.NumGoroutine" := by decide) (hlen : C.A.length ≤ fn.ntmps := by exact zqNlb rfl) : Has Tryz.prog f C :=
 Has.fP _ _ _ hl hf h hb hnm hlen
def cu.below (C:cu) (μ:APs.Ty C.A->APs.Ty C.B->Nat) (n:Nat):cu:= { C with pre:=λx y=>C.pre x y/\μ x y<n }
def Has.aqr (ex wr pt:Nat->Bool) {f:FuncId}{fn:Func}{cd:Code}{C:cu}(μ:APs.Ty C.A->APs.Ty C.B->Nat) {l:List (FuncId×cu)}(hl:ll Tryz.prog l) (hf:Tryz.prog.funcs[f]?=some fn)
  (h : ∀ x y, C.pre x y → Has Tryz.prog f (C.below μ (μ x y)) → vc Tryz.prog fn.ntmps (sem (mkE fn.ntmps ((f, C.below μ (μ x y)) :: l) ex wr pt)) cd (entry (APs.avs C.A x) (APs.avs C.B y)) (endQ (mkE fn.ntmps l ex wr pt).sh fn.results.toList C.B.length C.mv (fun r os => ∃ z, C.φ x y z ∧ r = C.r x y z ∧ os = C.o x y z ∧ os.length = C.B.length + C.nf))) (hb : fn.body = some cd := by exact rfl) (hnm : fn.name ≠ "runtime.NumGoroutine" := by decide) (hlen : C.A.length ≤ fn.ntmps := by exact zqNlb rfl) : Has Tryz.prog f C := by
 have hE:Enters Tryz.prog f:=⟨fn,hf,by rw [hb];rfl,hnm⟩
 have key:∀n,AR Tryz.prog f (C.below μ n):=by
  intro n
  induction n with
  |zero=>intro x y hp;exact absurd hp.2 (by omega)
  |succ n ih=>
   intro (x:APs.Ty C.A) (y:APs.Ty C.B) (hp:C.pre x y/\μ x y<n+1)
   have hm:Has Tryz.prog f (C.below μ (μ x y)):=⟨λx' y' hp'=>ih x' y' ⟨hp'.1,by have:=hp.2;have h2:μ x' y' < μ x y:=hp'.2;omega⟩,hE⟩
   have hl':ll Tryz.prog ((f,C.below μ (μ x y))::l):=⟨hm,hl⟩
   have hx:(APs.avs C.A x).length<=fn.ntmps:=by rw [APs.jA];exact hlen
   have hy:(APs.avs C.B y).length=C.B.length:=APs.jA C.B y
   exact TC.D3 (P:=Tryz.prog) (N:=fn.ntmps) (S:=sem (mkE fn.ntmps ((f,C.below μ (μ x y))::l) ex wr pt)) (sh:=(mkE fn.ntmps l ex wr pt).sh) (f:=f) (fn:=fn) (cd:=cd) (args:=APs.avs C.A x) (bs:=APs.avs C.B y) (mv:=C.mv) (post:=λr os=>∃z,C.φ x y z/\r=C.r x y z/\os=C.o x y z/\os.length=C.B.length+C.nf) mixed (xz (vY (n:=fn.ntmps) (ex:=ex) (wr:=wr) (pt:=pt) hl')) (Env.RI (vY (n:=fn.ntmps) (ex:=ex) (wr:=wr) (pt:=pt) hl)) hf hb rfl hx (by rw [hy];exact h x y hp.1 hm)
 exact⟨λx y hp=>key (μ x y+1) x y ⟨hp,by omega⟩,hE⟩
def TC.aef {P:Program}{f:FuncId}{mv:Bool}{args bs:List AV}{post DW:AV->List AV->Prop}(h:TC P f mv args bs post) (hp:∀r os,post r os->∃j,DW r (os++List.replicate j .zz)):TC P f mv args bs DW:=by
 intro W T β vs h1 h2 h3 h4 h5
 refine (h W T β vs h1 h2 h3 h4 h5).mono λe w' ⟨v,r,os,T',β',e1,e2,e3,e4,e5,e6⟩=>?_
 obtain⟨j,hj⟩:=hp _ _ e2
 have wk:∀(i:Nat) (av:AV),(os++List.replicate j AV.zz)[i]?=some av->av≠.zz->os[i]?=some av:=by
  intro i av hi hz
  by_cases bR:i<os.length
  ·rwa [ZC3 bR] at hi
  ·rw [ZD2 (by omega)] at hi
   have:=ZB8 hi
   exact absurd (ZE4.1 this).2 hz
 have hlen:os.length<=(os++List.replicate j AV.zz).length:=by rw [ZA0];omega
 exact⟨v,r,_,T',β',e1,hj,e3,⟨λi hi=>ZF8 (e4.1 i hi) hlen,e4.2⟩,e5,{
  len:=ZA9 e6.len hlen
  same:=e6.same
  at_:=λi av hi hz=>by
   obtain⟨g1,g2,g3,g4,g5⟩:=e6.at_ i av (wk i av hi hz) hz
   exact⟨g1,g2,g3,λj hj=>ZF8 (g4 j hj) hlen,g5⟩
  inj:=λi k av av' hi hz hk hz' e=>e6.inj i k av av' (wk i av hi hz) hz (wk k av' hk hz') hz' e }⟩
def Has.ofZ (ex wr pt:Nat->Bool) {l:List (FuncId×cu)}(hl:ll Tryz.prog l) {f:FuncId}{fn:Func}{cd:Code}{C:cu}(hf:Tryz.prog.funcs[f]?=some fn)
  (h : ∀ x y, C.pre x y → vc Tryz.prog fn.ntmps (sem (mkE fn.ntmps l ex wr pt)) cd (entry (APs.avs C.A x) (APs.avs C.B y)) (endQ (mkE fn.ntmps l ex wr pt).sh fn.results.toList C.B.length C.mv (fun r os => ∃ z j, C.φ x y z ∧ r = C.r x y z ∧ os ++ List.replicate j .zz = C.o x y z ∧ (C.o x y z).length = C.B.length + C.nf))) (hb : fn.body = some cd := by exact rfl) (hnm : fn.name ≠ "runtime.NumGoroutine" := by decide) (hlen : C.A.length ≤ fn.ntmps := by exact zqNlb rfl) : Has Tryz.prog f C := by
 refine⟨λx y hp=>?_,fn,hf,by rw [hb];rfl,hnm⟩
 have hx:(APs.avs C.A x).length<=fn.ntmps:=by rw [APs.jA];exact hlen
 have hy:(APs.avs C.B y).length=C.B.length:=APs.jA C.B y
 refine TC.aef (TC.D3 (P:=Tryz.prog) (N:=fn.ntmps) (S:=sem (mkE fn.ntmps l ex wr pt)) (sh:=(mkE fn.ntmps l ex wr pt).sh) (f:=f) (fn:=fn) (cd:=cd) (args:=APs.avs C.A x) (bs:=APs.avs C.B y) (mv:=C.mv) (post:=λr os=>∃z j,C.φ x y z/\r=C.r x y z/\os++List.replicate j .zz=C.o x y z/\(C.o x y z).length=C.B.length+C.nf) mixed (xz (vY (n:=fn.ntmps) (ex:=ex) (wr:=wr) (pt:=pt) hl)) (Env.RI (vY (n:=fn.ntmps) (ex:=ex) (wr:=wr) (pt:=pt) hl)) hf hb rfl hx (by rw [hy];exact h x y hp)) ?_
 rintro r os ⟨z,j,h1,h2,h3,h4⟩
 exact⟨j,z,h1,h2,h3,by rw [h3];exact h4⟩
def Wk (r' r:AV):Prop:=(∀(T:a8) (β:Nat->Nat) (v:Value),r.rel T β v->r'.rel T β v)/\(∀i∈r'.boxes,i∈r.boxes)/\(r.pQ=true->r'.pQ=true)
def Wk.refl (r:AV):Wk r r:=⟨λ_ _ _ h=>h,λ_ h=>h,λh=>h⟩
def Wk.of_eq {r' r:AV}(h:r'=r):Wk r' r:=h ▸ Wk.refl _
def Wk.nil (ek:EK):Wk (.s (.vw ek [])) (.s (.v (.slice none 0 0))):=⟨λ_ _ v h=>.inl ⟨rfl,none,0,h⟩,λi h=>by simp [AV.boxes,A0.boxes,SV.boxes] at h,λ_=>rfl⟩
def WkT:List A0->List A0->Prop
 |[],[]=>True
 |x::l,y::m=>Wk (.o x) (.o y)/\WkT l m
 |_,_=>False
def WkT.all:∀{l m:List A0},WkT l m->(∀(T:a8) (β:Nat->Nat) (vs:List Value),uj T β m vs->uj T β l vs)/\(∀i∈fD l,i∈fD m)/\(xa m=true->xa l=true)
 |[],[],_=>⟨λ_ _ _ h=>h,λ_ h=>h,λh=>h⟩
 |[],_::_,h=>h.elim
 |_::_,[],h=>h.elim
 |x::l,y::m,h=>by
  obtain⟨a1,a2,a3⟩:=h.1
  obtain⟨b1,b2,b3⟩:=WkT.all h.2
  refine⟨λT β vs hr=>?_,λi hi=>?_,λhf=>?_⟩
  ·cases vs with
   |nil=>exact hr.elim
   |cons v vs=>exact⟨a1 T β v hr.1,b1 T β vs hr.2⟩
  ·simp only [fD,ZB5] at hi ⊢
   rcases hi with hi |hi
   ·exact .inl (a2 i hi)
   ·exact .inr (b2 i hi)
  ·simp only [xa,ZB1] at hf ⊢
   exact⟨a3 hf.1,b3 hf.2⟩
def Wk.tup {l m:List A0}(h:WkT l m):Wk (.t l) (.t m):=
 ⟨λT β v hr=>by obtain⟨vs,e,hl⟩:=hr;exact⟨vs,e,h.all.1 T β _ hl⟩,h.all.2.1,h.all.2.2⟩
def TC.aqh {P:Program}{f:FuncId}{mv:Bool}{args bs:List AV}{post DW:AV->List AV->Prop}(h:TC P f mv args bs post) (hp:∀r os,post r os->∃r' j,Wk r' r/\DW r' (os++List.replicate j .zz)):TC P f mv args bs DW:=by
 refine TC.aef (post:=λr os=>∃j,DW r (os++List.replicate j .zz)) ?_ (λr os h=>h)
 intro W T β vs h1 h2 h3 h4 h5
 refine (h W T β vs h1 h2 h3 h4 h5).mono λe w' ⟨v,r,os,T',β',e1,e2,e3,e4,e5⟩=>?_
 obtain⟨r',j,hw,hj⟩:=hp _ _ e2
 exact⟨v,r',os,T',β',e1,⟨j,hj⟩,hw.1 _ _ _ e3,⟨λi hi=>e4.1 i (hw.2.1 i hi),hw.2.2 e4.2⟩,e5⟩
def aw {P:Program}{n:Nat}{S:Sm}{cd:Code}{τ:St}{Q':va}(h:vc P n S cd τ Q'):vc P n S cd τ Q':=h
def ax {F:Oper->Q Rs}{l:List Oper}{τ:St}{K:St->Prop}(h:vcT F l τ K):vcT F l τ K:=h
def df {l:List (FuncId×cu)}{n:Nat}{ex wr pt:Nat->Bool}(hl:ll Tryz.prog l) {τ:St}{Q':va}{cd:Code}{ι:Type}(cm:List gx) (J:ι->FJ) (φ:ι->Prop) (μ:ι->Nat) (x0:ι) (sg0:List (Nat×Nat)) (h0:φ x0) (hs:JX sg0 τ τ cm (J x0))
  (wj:∀x,φ x->vc Tryz.prog n (sem (mkE n l ex wr pt)) cd ((qm τ cm).ap (J x)) (IW (λτ'=>∃y sg,φ y/\μ y < μ x/\JX sg τ τ' cm (J y)) Q')):TW Tryz.prog n (.loop cd) τ Q':=
 amo (E:=mkE n l ex wr pt) (vY hl) mixed cm J φ μ x0 sg0 h0 hs wj
abbrev E2 (A:List AP) (pre:APs.Ty A->Prop) (r:APs.Ty A->AV):cu where
 A:=A
 B:=[]
 pre:=λx _=>pre x
 α:=λ_ _=>Unit
 φ:=λ_ _ _=>True
 r:=λx _ _=>r x
 o:=λ_ _ _=>[]
 nf:=0
def gC (n lo hi:Int):Bool:=decide (lo<=n)&&decide (n<=hi)
def cy {n lo hi:Int}:gC n lo hi=true↔lo<=n/\n<=hi:=by simp [gC]
def jc:cu:=E2 [.s .int,.s .int,.s .int] (λ_=>True) λ(n,lo,hi)=>.q (gC n lo hi)
def jr:Has Tryz.prog 60 jc:=by
 refine Has.of (l:=[]) trivial Tryz.func60 ?_
 rintro⟨n,lo,hi⟩ _ _
 refine⟨aa,λh1=>⟨[],[],_,_,_,ζ,⟨tv2,aa⟩,(),aa,?_,ζ,ζ⟩,λh1=>⟨[],[],_,_,_,ζ,⟨tv2,aa⟩,(),aa,?_,ζ,ζ⟩⟩
 ·have h2:lo<=n:=by simpa using h1
  show AV.q (decide (n<=hi))=AV.q (decide (lo<=n)&&decide (n<=hi))
  simp [h2]
 ·have h2:¬lo<=n:=by simpa using h1
  show AV.q false=AV.q (decide (lo<=n)&&decide (n<=hi))
  simp [h2]
abbrev Pt:=Int×Int×Int×Int×Int
abbrev PtS:List SP:=[.int,.int,.int,.int,.int]
def au (p:Pt):Bool:=decide (p.1=0)&&(decide (p.2.1=0)&&(decide (p.2.2.1=0)&&(decide (p.2.2.2.1=0)&&decide (p.2.2.2.2=0))))
def cN:cu:=E2 [.a PtS] (λ_=>True) λp=>.q (au p)
def cQ:Has Tryz.prog 62 cN:=by
 refine Has.of (l:=[]) trivial Tryz.func62 ?_
 rintro⟨a,b,c,d,e⟩ _ _
 refine⟨[],[],_,_,_,ζ,⟨tv2,aa⟩,(),aa,?_,ζ,ζ⟩
 rfl
end GL
namespace GL
def vcP (P:Program) (N:Nat) (S:Sm) (Q':va):Nat->Code->St->Prop
 |0,cd,τ=>TW P N cd τ Q'
 |n+1,.seq x y,τ=>vc P N S x τ (IW (λτ'=>vcP P N S Q' n y τ') Q')
 |_+1,_,_=>False
def RD {P:Program}{N:Nat}{S:Sm}{Q':va}(hm:P.follows .mixedOrders=true) (hS:adF P N S):∀(n:Nat) (cd:Code) (τ:St),vcP P N S Q' n cd τ->TW P N cd τ Q'
 |0,cd,τ,h=>h
 |n+1,.seq x y,τ,h=>TW.seq ((iQ hm hS x τ _ h).mono λe τ' hq=>by
  cases e with
  |normal=>exact RD hm hS n y τ' hq
  |_=>exact hq)
 |n+1,.skip,τ,h=>h.elim
 |n+1,.region _ _ _,τ,h=>h.elim
 |n+1,.cond _ _ _,τ,h=>h.elim
 |n+1,.block _ _,τ,h=>h.elim
 |n+1,.loop _,τ,h=>h.elim
 |n+1,.scope _,τ,h=>h.elim
 |n+1,.exit _,τ,h=>h.elim
 |n+1,.label _,τ,h=>h.elim
 |n+1,.ret,τ,h=>h.elim
 |n+1,.rangeFunc _ _ _ _,τ,h=>h.elim
 |n+1,.goto _,τ,h=>h.elim
 |n+1,.refuse _,τ,h=>h.elim
theorem TC.aoF {P:Program}{N:Nat}{sh:TypeId->Option (Bool×Nat)}{f:FuncId}{fn:Func}{cd:Code}{args bs:List AV}{mv:Bool}{post:AV->List AV->Prop}(hsh:∀t x,sh t=some x->Sh P t=some x)
  (hf:P.funcs[f]?=some fn) (hb:fn.body=some cd) (hN:fn.ntmps=N) (hlen:args.length<=N)
  (h:TW P N cd (entry args bs) (endQ sh fn.results.toList bs.length mv post)):TC P f mv args bs post:=by
 intro W T β0 vs hT hnf cB wo rY
 refine calls_of_wp hf hb ?_
 have hvl:=MK cB
 let c:Ctx:=⟨W,T,(cV 0 bs.length).map β0⟩
 have hlb:∀i,live (entry args bs) i->i<bs.length:=λi hi=>by
  obtain⟨av,hav⟩:=Option.ne_none_iff_exists'.1 (lO hi)
  rcases ko hav with ⟨j,e,_⟩ |⟨j,e,hj⟩
  ·cases e
  ·cases e;exact (ZB9.1 hj).1
 have anM:Holds N c T β0 (entry args bs) { tmps:=vs.toArray++Array.replicate (fn.ntmps-vs.toArray.size) undef,defers:=[] } W:= {
  defs:=rfl
  size:=by simp;omega
  JK:=by show ((cV 0 bs.length).map β0).length<=1000;rw [ZH3,lV];exact rY.JK
  jD:=λi av hi=>by
   rcases ko hi with ⟨j,e,hj⟩ |⟨j,e,_⟩
   ·cases e
    obtain⟨v,hv,hr⟩:=UR cB hj
    refine⟨v,?_,hr⟩
    have H0:i<vs.length:=(ZB9.1 hv).1
    rw [Array.getElem?_append_left (by simpa using H0)]
    simpa using hv
   ·cases e
  boxes:=λi av hi hz=>by
   rcases ko hi with ⟨j,e,_⟩ |⟨j,e,hj⟩
   ·cases e
   ·cases e;exact (rY.at_ i av hj).2.2.1
  apart:=λi hi=>by
   have bR:=hlb i hi
   obtain⟨_,h1,_⟩:=rY.at_ i _ (ZB2 bR)
   have cF:β0 i∈(cV 0 bs.length).map β0:=List.mem_map.2 ⟨i,gM.2 ⟨by omega,by omega⟩,rfl⟩
   exact⟨h1,λ_=>cF,λh=>absurd rY.JK (by omega),.inr cF⟩
  handed:=λi b hb hi=>by
   have bR:=hlb i hi
   have J6:((cV 0 bs.length).map β0)[i]?=some b:=hb
   rw [ZG7,kG _ _ _ bR] at J6
   simpa using J6
  inj:=λi j hi hj e=>rY.inj i j (hlb i hi) (hlb j hj) e
  named:=λr av hr i hi=>by
   rcases ko hr with ⟨j,rfl,hj⟩ |⟨j,rfl,hj⟩
   ·exact zW (wo av (ZB8 hj) i hi)
   ·exact zW ((rY.at_ j av hj).2.2.2 i hi)
  typed:=hT
  old:=λb hb=>by
   show (T b).map BK.un=T b
   cases hk:T b with
   |none=>rfl
   |some k=>
    cases k with
    |fz ek n cs=>exact absurd hk (hnf.no b ek n cs)
    |_=>rfl
  frame:=λ_ _ _ _=>rfl
  gS:=ZB0 _
  os:=rfl
  tape:=rfl
  output:=rfl
  pO:=hnf.pO }
 refine Code.wp_mono ?_ (h c _ W ⟨T,_,anM⟩)
 rintro e a w ⟨τ,hr,hq⟩
 have hd:a.defers=[]:=by obtain⟨_,_,hh⟩:=hr;exact hh.defs
 cases e with
 |normal=>
  obtain⟨v,hv,r,os,T',β',h1⟩:=wv (args:=args) hsh hnf rY.JK hr hq
  exact⟨hd,v,hv,v,r,os,T',β',rfl,h1⟩
 |ret=>
  obtain⟨v,hv,r,os,T',β',h1⟩:=wv (args:=args) hsh hnf rY.JK hr hq
  exact⟨hd,v,hv,v,r,os,T',β',rfl,h1⟩
 |_=>exact hq.elim
def Has.ofP (k:Nat) (ex wr pt:Nat->Bool) {l:List (FuncId×cu)}(hl:ll Tryz.prog l) {f:FuncId}{fn:Func}{cd:Code}{C:cu}(hf:Tryz.prog.funcs[f]?=some fn)
  (h : ∀ x y, C.pre x y → vcP Tryz.prog fn.ntmps (sem (mkE fn.ntmps l ex wr pt)) (endQ (mkE fn.ntmps l ex wr pt).sh fn.results.toList C.B.length C.mv (fun r os => ∃ z j, C.φ x y z ∧ r = C.r x y z ∧ os ++ List.replicate j .zz = C.o x y z ∧ (C.o x y z).length = C.B.length + C.nf)) k cd (entry (APs.avs C.A x) (APs.avs C.B y))) (hb : fn.body = some cd := by exact rfl) (hnm : fn.name ≠ "runtime.NumGoroutine" := by decide) (hlen : C.A.length ≤ fn.ntmps := by exact zqNlb rfl) : Has Tryz.prog f C := by
 refine⟨λx y hp=>?_,fn,hf,by rw [hb];rfl,hnm⟩
 have hx:(APs.avs C.A x).length<=fn.ntmps:=by rw [APs.jA];exact hlen
 have hy:(APs.avs C.B y).length=C.B.length:=APs.jA C.B y
 refine TC.aef (TC.aoF (P:=Tryz.prog) (N:=fn.ntmps) (sh:=(mkE fn.ntmps l ex wr pt).sh) (f:=f) (fn:=fn) (cd:=cd) (args:=APs.avs C.A x) (bs:=APs.avs C.B y) (mv:=C.mv) (post:=λr os=>∃z j,C.φ x y z/\r=C.r x y z/\os++List.replicate j .zz=C.o x y z/\(C.o x y z).length=C.B.length+C.nf) (Env.RI (vY (n:=fn.ntmps) (ex:=ex) (wr:=wr) (pt:=pt) hl)) hf hb rfl hx (by rw [hy];exact RD mixed (xz (vY hl)) k cd _ (h x y hp))) ?_
 rintro r os ⟨z,j,h1,h2,h3,h4⟩
 exact⟨j,z,h1,h2,h3,by rw [h3];exact h4⟩
def E1:Nat->Code->Code
 |0,cd=>cd
 |n+1,.seq _ y=>E1 n y
 |_+1,cd=>cd
def W6 (fn:Func):Code:=fn.body.getD .skip
def KB {l:List (FuncId×cu)}{n:Nat}{ex wr pt:Nat->Bool}(hl:ll Tryz.prog l) {k:Nat}{τ:St}{Q':va}{cd:Code}{ι:Type}(J:ι->FJ) (φ:ι->Prop) (rest:Code)
  (ht:∀x,φ x->vc Tryz.prog n (sem (mkE n l ex wr pt)) rest (NG.ap (J x)) Q')
  (hk:(∀x,φ x->TW Tryz.prog n rest (NG.ap (J x)) Q')->vcP Tryz.prog n (sem (mkE n l ex wr pt)) Q' k cd τ):vcP Tryz.prog n (sem (mkE n l ex wr pt)) Q' k cd τ:=
 hk λx hx=>iQ mixed (xz (vY hl)) _ _ _ (ht x hx)
def joinTail {n:Nat}{τ:St}{Q':va}{rest:Code}{ι:Type}{J:ι->FJ}{φ:ι->Prop}(tail:∀x,φ x->TW Tryz.prog n rest (NG.ap (J x)) Q') (x:ι) (sg:List (Nat×Nat)) (h:φ x) (hs:JX sg τ τ [] (J x)):TW Tryz.prog n rest τ Q':=
 TW.alF [] (J x) sg hs (tail x h)
end GL
namespace GL
end GL
namespace GL
abbrev bf:=Int×Int×Int×Int×Int×Int×Int
abbrev dN:=Int×Int×Int×Int×Int×Int×Int×Int×Int×Int
abbrev Opr:=Int×ByteArray×ByteArray×Int×ByteArray
abbrev fO:=ByteArray×Int
abbrev ay:=List ByteArray×List Int×List Int×Int×List Pt×Int×List Pt×Bool
abbrev ay.rows (s:ay):List ByteArray:=s.1
abbrev ay.refs (s:ay):List Int:=s.2.1
abbrev ay.last (s:ay):List Int:=s.2.2.1
abbrev ay.cz (s:ay):Int:=s.2.2.2.1
abbrev ay.gone (s:ay):List Pt:=s.2.2.2.2.1
abbrev ay.cm (s:ay):Int:=s.2.2.2.2.2.1
abbrev ay.dead (s:ay):List Pt:=s.2.2.2.2.2.2.1
abbrev ay.same (s:ay):Bool:=s.2.2.2.2.2.2.2
abbrev stB (b0 b1 b2 b3 b4:Nat):List SP:=[.xb b0 ab,.xb b1 ag,.xb b2 ag,.int,.xb b3 ae,.int,.xb b4 ae,.bool]
abbrev vj:List SP:=[.vz ab,.vz ag,.vz ag,.int,.vz ae,.int,.vz ae,.bool]
def nH (b0 b1 b2 b3 b4:Nat) (s:ay):List SV:=[.xs b0 1 0 s.rows.length,.xs b1 1 0 s.refs.length,.xs b2 1 0 s.last.length,.int s.cz,.xs b3 5 0 s.gone.length,.int s.cm,.xs b4 5 0 s.dead.length,.q s.same]
def KF (s:ay):List AV:=[.rs ab s.rows,.rs ag s.refs,.rs ag s.last,.rs ae s.gone,.rs ae s.dead]
def xy {b0 b1 b2 b3 b4 m1 m2 m3 m4 m5:Nat}{tx kp:Int}{sm:Bool}{s:ay}(h1:m1=s.rows.length) (h2:m2=s.refs.length) (h3:m3=s.last.length) (h4:tx=s.cz) (h5:m4=s.gone.length) (h6:kp=s.cm) (h7:m5=s.dead.length) (h8:sm=s.same):
  [SV.xs b0 1 0 m1,.xs b1 1 0 m2,.xs b2 1 0 m3,.int tx,.xs b3 5 0 m4,.int kp,.xs b4 5 0 m5,.q sm]=nH b0 b1 b2 b3 b4 s:=by
 subst h1 h2 h3 h4 h5 h6 h7 h8;rfl
def amY {ro:List ByteArray}{rf la:List Int}{go de:List Pt}{s:ay}(h1:ro=s.rows) (h2:rf=s.refs) (h3:la=s.last) (h4:go=s.gone) (h5:de=s.dead):[AV.rs ab ro,.rs ag rf,.rs ag la,.rs ae go,.rs ae de]=KF s:=by
 subst h1 h2 h3 h4 h5;rfl
def whole (m1 m2 m3 m4 m5:Nat) (ro:List ByteArray) (rf la:List Int) (go de:List Pt):Prop:=m1=ro.length/\m2=rf.length/\m3=la.length/\m4=go.length/\m5=de.length
abbrev iE (x:Nat×Nat×Nat×Int×Nat×Int×Nat×Bool) (b:List ByteArray×List Int×List Int×List Pt×List Pt):ay:=(b.1,b.2.1,b.2.2.1,x.2.2.2.1,b.2.2.2.1,x.2.2.2.2.2.1,b.2.2.2.2,x.2.2.2.2.2.2.2)
abbrev stW (x:Nat×Nat×Nat×Int×Nat×Int×Nat×Bool) (b:List ByteArray×List Int×List Int×List Pt×List Pt):Prop:=whole x.1 x.2.1 x.2.2.1 x.2.2.2.2.1 x.2.2.2.2.2.2.1 b.1 b.2.1 b.2.2.1 b.2.2.2.1 b.2.2.2.2
def abj {α:Type}(m:Nat) (l:List α):Prop:=m=l.length
abbrev z8 (n:Int):Int:=IntKind.i64.wrap n
def oV {ek:EK}{l:List (EK.Ty ek)}{k:Nat}{x:EK.Ty ek}(h:k<l.length):nth ek (l.set k x) k=x:=by
 unfold nth
 rw [List.getElem?_set_self h]
theorem k8 (k:Nat):al5 0 k=k:=rfl
def ba {P:Prop}(h:P:=by first|exact⟨(),trivial⟩|(dsimp only [dO,k8];omega)|(simp only [Option.getD_some,Option.getD_none,dO,k8,List.length_append,List.length_cons,List.length_nil];omega)|(simp only [decide_eq_true_eq,decide_eq_false_iff_not,dO,k8,gz,imax,Int.toNat_natCast,Option.getD_some,Option.getD_none,List.length_append,List.length_cons,List.length_nil] at *;omega)):P:=h
def bZ {P:Prop}(h:P:=by repeat' (first|exact trivial|apply And.intro|exact Nat.le_of_eq (Nat.zero_add _)|(simp only [Option.getD_some,Option.getD_none,dO,k8,List.length_append,List.length_cons,List.length_nil];omega))):P:=h
def EO (rf la:List Int) (k:Nat):List Int×List Int:=
 (rf.set k (z8 (nth ag rf k-1)),if z8 (nth ag rf k-1)=0 then la.set k 0 else la)
def BM (sp:List Int×List Int) (k:Int):Prop:=0<=k/\k<sp.1.length/\k<sp.2.length
def abO (sp:List Int×List Int) (k:Int):AV:=.a [.xs 0 1 0 sp.1.length,.xs 1 1 0 sp.2.length]
def af0 (sp:List Int×List Int) (k:Int):List AV:=[.rs ag (EO sp.1 sp.2 k.toNat).1,.rs ag (EO sp.1 sp.2 k.toNat).2]
def PW:cu where
 A:=[.a [.xb 0 ag,.xb 1 ag],.s .int]
 B:=[.r ag,.r ag]
 pre:=λx b=>abj x.1.1 (b.1)/\abj x.1.2 (b.2)/\BM ((b.1,b.2)) (x.2)
 r:=λx b _=>abO ((b.1,b.2)) (x.2)
 o:=λx b _=>af0 ((b.1,b.2)) (x.2)
def ai3:Has Tryz.prog 133 PW:=by
 refine Has.fP zT (λd=>Nat.beq d 13) zF (l:=[]) trivial Tryz.func133 ?_
 rintro⟨⟨(aql:Nat),(aqk:Nat)⟩,(k:Int)⟩ ⟨(dX:List Int),(fo:List Int)⟩ ⟨(anA:aql=List.length dX),(anz:aqk=List.length fo),(hp:BM (dX,fo) k)⟩
 subst anA anz
 show vc _ _ _ _ (entry [.a [.xs 0 1 0 dX.length,.xs 1 1 0 fo.length],.int k] [.rs ag dX,.rs ag fo]) _
 obtain⟨h3,h4,h5⟩:=hp
 dsimp only at h4 h5
 have hk:k.toNat<dX.length:=by omega
 refine⟨Sq2,Sq5,ζ,[.s 5,.b 1002],Sq6,ζ,Sq1,Sq7,ζ,Sq2,Sq8,ζ,[.s 8,.b 1002],Sq9,ζ,Sq1,Sq10,ζ,[.s 9,.s 10],Sq11,ζ,⟨?_,?_⟩,[.s 11,.b 0],Sq12,ζ,?_,Sq12,Sq13,ζ,[.s 6,.s 7],Sq14,ζ,⟨?_,?_⟩,[.s 14,.s 13,.b 0],[.b 0],ζ,?_,⟨?_,?_⟩,?_,λw1=>⟨⟨?_,?_⟩,?_,?_⟩,λw2=>?_⟩
 all_goals first|refine aw ?_|refine ax ?_|exact bb|exact ba|(simp only [k8,ZC6];omega)|skip
 ·have h:nth ag (dX.set k.toNat _) k.toNat=0:=aF w1
  rw [oV hk] at h
  refine⟨[],[],_,_,_,ζ,aC,(),aa,?_,?_,ζ⟩
  ·rfl
  ·show [AV.rs ag (dX.set _ _),AV.rs ag (fo.set _ _)]=[AV.rs ag (dX.set _ _),AV.rs ag (if _ then _ else _)]
   simp only [k8] at h ⊢
   rw [if_pos h]
 ·have h:¬nth ag (dX.set k.toNat _) k.toNat=0:=aD w2
  rw [oV hk] at h
  refine⟨[],[],_,_,_,ζ,aC,(),aa,?_,?_,ζ⟩
  ·rfl
  ·show [AV.rs ag (dX.set _ _),AV.rs ag fo]=[AV.rs ag (dX.set _ _),AV.rs ag (if _ then _ else _)]
   simp only [k8] at h ⊢
   rw [if_neg h]
def ay.n64 (s:ay):Prop:=s.rows.length=64/\s.refs.length=64/\s.last.length=64
def xc (s:ay) (k:Nat):Bool:=decide (nth ag (EO s.refs s.last k).1 k=0)
def gZ (s:ay) (k:Nat):ay:=
 (bif xc s k then s.rows.set k ByteArray.empty else s.rows,(EO s.refs s.last k).1,(EO s.refs s.last k).2,s.cz,s.gone,s.cm,s.dead,s.same)
def H3 (rf la:List Int) (k:Nat):(EO rf la k).1.length=rf.length/\(EO rf la k).2.length=la.length:=by
 unfold EO
 refine⟨ZC6,?_⟩
 show List.length (if _ then _ else _)=_
 split<;>simp
def zX (s:ay) (k:Nat):(gZ s k).rows.length=s.rows.length/\(gZ s k).refs.length=s.refs.length/\(gZ s k).last.length=s.last.length:=by
 refine⟨?_,(H3 s.refs s.last k).1,(H3 s.refs s.last k).2⟩
 show List.length (bif _ then _ else _)=_
 cases xc s k<;>simp
def ry (S:ay) (k:Int):Prop:=S.n64/\0<=k/\k<64
def abK (S:ay) (k:Int):AV:=.a (nH 0 1 2 3 4 (gZ S k.toNat))
def afW (S:ay) (k:Int):List AV:=KF (gZ S k.toNat)
def sd:cu where
 A:=[.a (stB 0 1 2 3 4),.s .int]
 B:=[.r ab,.r ag,.r ag,.r ae,.r ae]
 pre:=λx b=>stW x.1 b/\ry (iE x.1 b) (x.2)
 r:=λx b _=>abK (iE x.1 b) (x.2)
 o:=λx b _=>afW (iE x.1 b) (x.2)
def OB:Has Tryz.prog 84 sd:=by
 refine Has.fP zT zF zF (l:=[(133,PW)]) ⟨ai3,aa⟩ Tryz.func84 ?_
 rintro⟨⟨(C7:Nat),(C6:Nat),(C5:Nat),(ao:Int),(C4:Nat),(aq:Int),(C3:Nat),(ar:Bool)⟩,(k:Int)⟩ ⟨(aj:List ByteArray),(ak:List Int),(an:List Int),(ah:List Pt),(ai:List Pt)⟩ ⟨⟨(gR:C7=List.length aj),(gQ:C6=List.length ak),(gP:C5=List.length an),(gO:C4=List.length ah),(gN:C3=List.length ai)⟩,(hp:ry (aj,ak,an,ao,ah,aq,ai,ar) k)⟩
 subst gR gQ gP gO gN
 show vc _ _ _ _ (entry [.a [.xs 0 1 0 aj.length,.xs 1 1 0 ak.length,.xs 2 1 0 an.length,.int ao,.xs 3 5 0 ah.length,.int aq,.xs 4 5 0 ai.length,.q ar],.int k] [.rs ab aj,.rs ag ak,.rs ag an,.rs ae ah,.rs ae ai]) _
 let A':=(aj,ak,an,ao,ah,aq,ai,ar)
 obtain⟨⟨l1,l2,l3⟩,h6,h7⟩:=hp
 dsimp only [ay.rows,ay.refs,ay.last] at l1 l2 l3
 have hk:k.toNat<ak.length:=by omega
 have hk2:k.toNat<(EO ak an k.toNat).1.length:=by rw [(H3 _ _ _).1];exact hk
 have hD:=zX A' k.toNat
 refine⟨⟨⟨tv3,tv2⟩,?_,?_,?_,?_,?_⟩,λx1 w2=>⟨⟨?_,?_⟩,?_,λw3=>⟨⟨?_,?_⟩,?_,?_⟩,λw4=>?_⟩⟩
 all_goals first|refine aw ?_|refine ax ?_|exact bb|(dsimp only [PW,BM];omega)|exact ba|exact hk2|skip
 all_goals
  refine⟨[],[],_,_,_,ζ,aC,(),aa,?_,?_,ζ⟩
  ·exact congrArg AV.a (xy (s:=gZ A' k.toNat) hD.1.symm hD.2.1.symm hD.2.2.symm rfl rfl rfl rfl rfl)
  ·refine amY (s:=gZ A' k.toNat) ?_ rfl rfl rfl rfl
   show _=bif _ then _ else _
   first
    |rw [show xc A' k.toNat=true from w3];rfl
    |rw [show xc A' k.toNat=false from w4];rfl
def dh (s:ay) (p:Pt):ay:=
 bif au p then s else
 bif decide (p.2.1<=s.cm) then (s.rows,s.refs,s.last,s.cz,s.gone,s.cm,s.dead++[p],s.same) else
 bif decide (p.2.1<s.cz) then (s.rows,s.refs,s.last,s.cz,s.gone++[p],s.cm,s.dead,s.same) else gZ s p.1.toNat
def CG {s:ay}{p:Pt}(h:au p=true):dh s p=s:=by unfold dh;rw [h];rfl
def CJ {s:ay}{p:Pt}(h:au p=false) (h1:decide (p.2.1<=s.cm)=true):dh s p=(s.rows,s.refs,s.last,s.cz,s.gone,s.cm,s.dead++[p],s.same):=by unfold dh;rw [h,h1];rfl
def CH {s:ay}{p:Pt}(h:au p=false) (h1:decide (p.2.1<=s.cm)=false) (h2:decide (p.2.1<s.cz)=true):dh s p=(s.rows,s.refs,s.last,s.cz,s.gone++[p],s.cm,s.dead,s.same):=by unfold dh;rw [h,h1,h2];rfl
def CI {s:ay}{p:Pt}(h:au p=false) (h1:decide (p.2.1<=s.cm)=false) (h2:decide (p.2.1<s.cz)=false):dh s p=gZ s p.1.toNat:=by unfold dh;rw [h,h1,h2];rfl
def eh (S:ay) (p:Pt):Prop:=S.n64/\0<=p.1/\p.1<64/\S.gone.length<=1048000/\S.dead.length<=1048000
def abJ (S:ay) (p:Pt):AV:=.a (nH 0 1 2 5 6 (dh S p))
def kL (S:ay) (p:Pt):List AV:=[.rs ab (dh S p).rows,.rs ag (dh S p).refs,.rs ag (dh S p).last,.zz,.zz,.rs ae (dh S p).gone,.rs ae (dh S p).dead]
def c8:cu where
 A:=[.a (stB 0 1 2 3 4),.a [.int,.int,.int,.int,.int]]
 B:=[.r ab,.r ag,.r ag,.r ae,.r ae]
 pre:=λx b=>stW x.1 b/\eh (iE x.1 b) (x.2)
 r:=λx b _=>abJ (iE x.1 b) (x.2)
 o:=λx b _=>kL (iE x.1 b) (x.2)
 nf:=2
 mv:=true
def iy:Has Tryz.prog 53 c8:=by
 refine Has.fP zT zF zF (l:=[(62,cN),(84,sd)]) ⟨cQ,OB,aa⟩ Tryz.func53 ?_
 rintro⟨⟨(C7:Nat),(C6:Nat),(C5:Nat),(ao:Int),(C4:Nat),(aq:Int),(C3:Nat),(ar:Bool)⟩,⟨(p1:Int),(p2:Int),(p3:Int),(p4:Int),(p5:Int)⟩⟩ ⟨(aj:List ByteArray),(ak:List Int),(an:List Int),(ah:List Pt),(ai:List Pt)⟩ ⟨⟨(gR:C7=List.length aj),(gQ:C6=List.length ak),(gP:C5=List.length an),(gO:C4=List.length ah),(gN:C3=List.length ai)⟩,(hp:eh (aj,ak,an,ao,ah,aq,ai,ar) (p1,p2,p3,p4,p5))⟩
 subst gR gQ gP gO gN
 show vc _ _ _ _ (entry [.a [.xs 0 1 0 aj.length,.xs 1 1 0 ak.length,.xs 2 1 0 an.length,.int ao,.xs 3 5 0 ah.length,.int aq,.xs 4 5 0 ai.length,.q ar],.a [.int p1,.int p2,.int p3,.int p4,.int p5]] [.rs ab aj,.rs ag ak,.rs ag an,.rs ae ah,.rs ae ai]) _
 let A':=(aj,ak,an,ao,ah,aq,ai,ar)
 let B':=(p1,p2,p3,p4,p5)
 obtain⟨⟨l1,l2,l3⟩,(h6:0<=p1),(h7:p1<64),h8,h9⟩:=hp
 dsimp only [ay.rows,ay.refs,ay.last,ay.gone,ay.dead] at l1 l2 l3 h8 h9
 refine⟨⟨⟨tv6,aa⟩,aa⟩,λx1 w2=>⟨λw3=>?_,λw4=>⟨λw5=>⟨aa,⟨⟨?_,?_⟩,?_,?_⟩,?_⟩,λw6=>⟨λw7=>⟨aa,⟨⟨?_,?_⟩,?_,?_⟩,?_⟩,λw8=>⟨⟨⟨tv9,tv2⟩,⟨?_,?_,?_,?_,?_⟩,⟨?_,?_,?_⟩,?_,?_⟩,λx9 dB=>?_⟩⟩⟩⟩⟩
 all_goals first|refine aw ?_|refine ax ?_|exact bb|(dsimp only [sd,ry,iE];omega)|exact ba|(simp only [dO,ZA1,ZA4];omega)|exact l1|exact l2|exact l3|skip
 ·refine⟨[3,4],[],_,_,_,ζ,aC,(),aa,?_,?_,ζ⟩
  ·show _=AV.a (nH 0 1 2 5 6 (dh A' B'));rw [CG w3];rfl
  ·show _=kL A' B';unfold kL;rw [CG w3];rfl
 ·refine⟨[3,1000000023],[],_,_,_,ζ,aC,(),aa,?_,?_,ζ⟩
  ·show _=AV.a (nH 0 1 2 5 6 (dh A' B'));rw [CJ w4 w5]
   exact congrArg AV.a (xy rfl rfl rfl rfl rfl rfl ZA0.symm rfl)
  ·show _=kL A' B';unfold kL;rw [CJ w4 w5];rfl
 ·refine⟨[1000000035,4],[],_,_,_,ζ,aC,(),aa,?_,?_,ζ⟩
  ·show _=AV.a (nH 0 1 2 5 6 (dh A' B'));rw [CH w4 w6 w7]
   exact congrArg AV.a (xy rfl rfl rfl rfl ZA0.symm rfl rfl rfl)
  ·show _=kL A' B';unfold kL;rw [CH w4 w6 w7];rfl
 ·refine⟨[3,4],[],_,_,_,ζ,aC,(),aa,?_,?_,ζ⟩
  ·show _=AV.a (nH 0 1 2 5 6 (dh A' B'));rw [CI w4 w6 w8];rfl
  ·show _=kL A' B';unfold kL;rw [CI w4 w6 w8];rfl
end GL
namespace GL
def ur (n:Int):Prop:=True
def afx (n:Int):AV:=.q (gC n 8 63)
def ah9 (n:Int):List AV:=[]
def qz:cu where
 A:=[.s .int]
 B:=[]
 pre:=λx b=>ur x
 r:=λx b _=>afx x
 o:=λx b _=>ah9 x
def EB:Has Tryz.prog 106 qz:=by
 refine Has.fP zT zF zF (l:=[(60,jc)]) ⟨jr,aa⟩ Tryz.func106 ?_
 rintro (n:Int) _ (hp:ur n)
 show vc _ _ _ _ (entry [.int n] []) _
 refine⟨⟨tv4,aa⟩,λx1 w2=>?_⟩
 refine⟨[],[],_,_,_,ζ,aC,(),aa,?_,?_,ζ⟩
 ·rfl
 ·rfl
def xT (s:ByteArray):Prop:=True
def YF (s:ByteArray):AV:=.q (gC s.size 1 128)
def ab7 (s:ByteArray):List AV:=[]
def IH:cu where
 A:=[.s .str]
 B:=[]
 pre:=λx b=>xT x
 r:=λx b _=>YF x
 o:=λx b _=>ab7 x
def agw:Has Tryz.prog 134 IH:=by
 refine Has.fP zT zF zF (l:=[(60,jc)]) ⟨jr,aa⟩ Tryz.func134 ?_
 rintro (s:ByteArray) _ (hp:xT s)
 show vc _ _ _ _ (entry [.str s] []) _
 refine⟨⟨tv4,aa⟩,λx1 w2=>?_⟩
 refine⟨[],[],_,_,_,ζ,aC,(),aa,?_,?_,ζ⟩
 ·rfl
 ·rfl
def bc (p:Pt):Bool:=au p||(gC p.1 8 63&&gC p.2.1 1 900&&gC p.2.2.1 1 128&&gC p.2.2.2.1 0 99460728&&gC p.2.2.2.2 0 2)
def eO (p:Pt):Prop:=True
def afA (p:Pt):AV:=.q (bc p)
def aii (p:Pt):List AV:=[]
def dD:cu where
 A:=[.a [.int,.int,.int,.int,.int]]
 B:=[]
 pre:=λx b=>eO x
 r:=λx b _=>afA x
 o:=λx b _=>aii x
def js:Has Tryz.prog 61 dD:=by
 refine Has.fP zT zF zF (l:=[(62,cN),(106,qz),(60,jc)]) ⟨cQ,EB,jr,aa⟩ Tryz.func61 ?_
 rintro⟨(p1:Int),(p2:Int),(p3:Int),(p4:Int),(p5:Int)⟩ _ (hp:eO (p1,p2,p3,p4,p5))
 show vc _ _ _ _ (entry [.a [.int p1,.int p2,.int p3,.int p4,.int p5]] []) _
 refine⟨⟨⟨tv6,aa⟩,aa⟩,λx1 w2=>⟨λw3=>?_,λw4=>⟨⟨tv2,aa⟩,λx5 w6=>⟨aa,λw7=>⟨⟨tv4,aa⟩,λx8 w9=>⟨aa,λdB=>⟨⟨tv4,aa⟩,λlJ dW=>⟨aa,λiL=>⟨⟨tv4,aa⟩,λx14 nG=>⟨aa,λkC=>⟨⟨tv4,aa⟩,λx17 qU=>?_⟩,λo9=>?_⟩⟩,λtl=>?_⟩⟩,λFW=>?_⟩⟩,λDB=>?_⟩⟩⟩⟩
 all_goals
  refine⟨[],[],_,_,_,ζ,aC,(),aa,?_,?_,ζ⟩
  ·show AV.q _=AV.q _
   congr 1
   simp_all [bc]
  ·rfl
def adU (p:Int×Int) (c:Int):Int×Int:=((p.1+c+1) % 9973,(p.2+(p.1+c+1) % 9973) % 9973)
def uc (s:ByteArray):Nat->Int×Int
 |0=>(1,0)
 |k+1=>adU (uc s k) (bX s k)
def vi (s:ByteArray):Int:=(uc s s.size).1*9973+(uc s s.size).2
def LU (s:ByteArray):∀k,0<=(uc s k).1/\(uc s k).1<=9972/\0<=(uc s k).2/\(uc s k).2<=9972
 |0=>by simp [uc]
 |k+1=>by
  have:=LU s k
  simp only [uc,adU]
  omega
def kJ (s:ByteArray):Prop:=(s.size:Int)<=1000000000000
def afz (s:ByteArray):AV:=.int (vi s)
def aih (s:ByteArray):List AV:=[]
def E7:cu where
 A:=[.s .str]
 B:=[]
 pre:=λx b=>kJ x
 r:=λx b _=>afz x
 o:=λx b _=>aih x
def aeB:Has Tryz.prog 135 E7:=by
 refine Has.fP zT zF zF (l:=[]) trivial Tryz.func135 ?_
 rintro (s:ByteArray) _ (hp:kJ s)
 show vc _ _ _ _ (entry [.str s] []) _
 unfold kJ at hp
 refine df (l:=[]) (ex:=zT) (wr:=zF) (pt:=zF) aa [.s 0] (λk:Nat=>[(.s 3,.int (uc s k).1),(.s 4,.int (uc s k).2),(.s 5,.int k)]) (λk=>k<=s.size) (λk=>s.size-k) 0 [] (ZA7 _) ⟨⟨rfl,rfl,rfl,aa⟩,rfl,aa⟩ ?_
 intro k hk
 obtain⟨b1,b2,b3,b4⟩:=LU s k
 have hb:=zZ s k
 refine⟨λw1=>⟨⟨?_,?_⟩,⟨⟨?_,?_⟩,⟨⟨?_,?_⟩,⟨⟨?_,?_⟩,⟨⟨?_,?_⟩,⟨⟨?_,?_⟩,⟨⟨?_,?_⟩,⟨⟨?_,?_⟩,?_⟩⟩⟩⟩⟩⟩⟩⟩,λw2=>⟨⟨?_,?_⟩,⟨⟨?_,?_⟩,?_⟩⟩⟩
 all_goals first|refine aw ?_|refine ax ?_|exact bb|exact ba|skip
 ·refine⟨(k+1),[],?_,?_,?_⟩
  rotate_right
  ·repeat' (first|exact trivial|rfl|exact rfl|exact iO ZA0.symm|exact sJ|apply And.intro)
  all_goals first|refine aw ?_|refine ax ?_|exact bb|exact ba|skip
 ·have h2:¬(k:Int)<(s.size:Int):=aD w2
  have hk':k=s.size:=by omega
  subst hk'
  refine⟨[],[],_,_,_,ζ,aC,(),aa,?_,?_,ζ⟩
  ·rfl
  ·rfl
def iN (p:Pt) (s:ByteArray):Bool:=bc p&&(!(au p)&&(decide (p.2.2.1=s.size)&&decide (p.2.2.2.1=vi s)))
def pD (p:Pt) (s:ByteArray):Prop:=(s.size:Int)<=1000000000000
def YG (p:Pt) (s:ByteArray):AV:=.q (iN p s)
def acu (p:Pt) (s:ByteArray):List AV:=[]
def uX:cu where
 A:=[.a [.int,.int,.int,.int,.int],.s .str]
 B:=[]
 pre:=λx b=>pD (x.1) (x.2)
 r:=λx b _=>YG (x.1) (x.2)
 o:=λx b _=>acu (x.1) (x.2)
def SR:Has Tryz.prog 90 uX:=by
 refine Has.fP zT zF zF (l:=[(61,dD),(62,cN),(135,E7)]) ⟨js,cQ,aeB,aa⟩ Tryz.func90 ?_
 rintro⟨⟨(p1:Int),(p2:Int),(p3:Int),(p4:Int),(p5:Int)⟩,(s:ByteArray)⟩ _ (hp:pD (p1,p2,p3,p4,p5) s)
 show vc _ _ _ _ (entry [.a [.int p1,.int p2,.int p3,.int p4,.int p5],.str s] []) _
 unfold pD at hp
 refine⟨[.s 2,.b 1002],Sq5,ζ,Sq5,Sq6,ζ,⟨⟨tv6,aa⟩,aa⟩,?_,λx1 w2=>⟨Sq6,Sq7,ζ,aa,λw3=>⟨[.s 7,.s 2,.b 1002],Sq8,ζ,[.s 7,.s 8],Sq9,ζ,⟨⟨tv6,aa⟩,aa⟩,?_,λx4 w5=>⟨[.s 7,.s 9],Sq10,ζ,[.s 7,.s 10],Sq11,ζ,Sq11,Sq12,ζ,aa,λw6=>⟨[.s 12,.s 2],Sq13,ζ,[.s 12,.s 13,.b 1002],Sq14,ζ,[.s 12,.s 1],Sq15,ζ,[.s 12,.s 15],Sq16,ζ,[.s 12,.s 14,.s 16],Sq17,ζ,[.s 12,.s 17],Sq18,ζ,Sq18,Sq19,ζ,aa,λw7=>⟨[.s 19,.s 2],Sq20,ζ,[.s 19,.s 20,.b 1002],Sq21,ζ,[.s 19,.s 1],Sq22,ζ,[.s 19,.s 22],Sq23,ζ,⟨tv2,?_⟩,?_,λx8 w9=>⟨[.s 19,.s 21,.s 23],Sq24,ζ,[.s 19,.s 24],Sq25,ζ,Sq25,Sq4,ζ,?_⟩⟩,λdB=>⟨Sq19,Sq20,ζ,Sq19,Sq21,ζ,Sq19,Sq22,ζ,Sq19,Sq23,ζ,Sq19,Sq24,ζ,[.s 19,.s 24],Sq25,ζ,Sq25,Sq4,ζ,?_⟩⟩,λiP=>⟨Sq12,Sq13,ζ,Sq12,Sq14,ζ,Sq12,Sq15,ζ,Sq12,Sq16,ζ,Sq12,Sq17,ζ,[.s 12,.s 17],Sq18,ζ,Sq18,Sq19,ζ,Sq19,Sq20,ζ,Sq19,Sq21,ζ,Sq19,Sq22,ζ,Sq19,Sq23,ζ,Sq19,Sq24,ζ,[.s 19,.s 24],Sq25,ζ,Sq25,Sq4,ζ,?_⟩⟩⟩,λdW=>⟨Sq7,Sq8,ζ,Sq7,Sq9,ζ,Sq7,Sq10,ζ,[.s 7,.s 10],Sq11,ζ,Sq11,Sq12,ζ,Sq12,Sq13,ζ,Sq12,Sq14,ζ,Sq12,Sq15,ζ,Sq12,Sq16,ζ,Sq12,Sq17,ζ,[.s 12,.s 17],Sq18,ζ,Sq18,Sq19,ζ,Sq19,Sq20,ζ,Sq19,Sq21,ζ,Sq19,Sq22,ζ,Sq19,Sq23,ζ,Sq19,Sq24,ζ,[.s 19,.s 24],Sq25,ζ,Sq25,Sq4,ζ,?_⟩⟩⟩
 all_goals first|refine aw ?_|refine ax ?_|exact bb|(dsimp only [dD,eO,E7,kJ];omega)|exact ba|(show kJ _;unfold kJ;omega)|skip
 all_goals
  refine⟨[],[],_,_,_,ζ,aC,(),aa,?_,?_,ζ⟩
  ·show AV.q _=AV.q _
   congr 1
   simp_all [iN]
  ·rfl
def ch:Pt:=(0,0,0,0,0)
def jQ (at_ AO level:Int) (s:ByteArray):Pt×Bool:=
 bif gC s.size 1 128&&bc (at_,AO,s.size,vi s,level) then ((at_,AO,s.size,vi s,level),true) else (ch,false)
def ptA (p:Pt):A0:=.a (EK.FQ ae p)
def GV {a b l:Int}{s:ByteArray}(h1:gC s.size 1 128=true) (h2:bc (a,b,s.size,vi s,l)=true):jQ a b l s=((a,b,(s.size:Int),vi s,l),true):=by unfold jQ;rw [h1,h2];rfl
def GX {a b l:Int}{s:ByteArray}(h1:gC s.size 1 128=false):jQ a b l s=(ch,false):=by unfold jQ;rw [h1];rfl
def GW {a b l:Int}{s:ByteArray}(h2:bc (a,b,s.size,vi s,l)=false):jQ a b l s=(ch,false):=by unfold jQ;rw [h2,ZD7];rfl
def pJ {b:Bool}(h:(!b)=true):b=false:=by simpa using h
def cr {b:Bool}(h:(!b)=false):b=true:=by simpa using h
def uw (a:Int) (b:Int) (l:Int) (s:ByteArray):Prop:=(s.size:Int)<=1000000000000
def afB (a:Int) (b:Int) (l:Int) (s:ByteArray):AV:=.t [ptA (jQ a b l s).1,.s (.q (jQ a b l s).2)]
def aij (a:Int) (b:Int) (l:Int) (s:ByteArray):List AV:=[]
def E9:cu where
 A:=[.s .int,.s .int,.s .int,.s .str]
 B:=[]
 pre:=λx b=>uw (x.1) (x.2.1) (x.2.2.1) (x.2.2.2)
 r:=λx b _=>afB (x.1) (x.2.1) (x.2.2.1) (x.2.2.2)
 o:=λx b _=>aij (x.1) (x.2.1) (x.2.2.1) (x.2.2.2)
def aeC:Has Tryz.prog 86 E9:=by
 refine Has.fP zT zF zF (l:=[(134,IH),(61,dD),(135,E7)]) ⟨agw,js,aeB,aa⟩ Tryz.func86 ?_
 rintro⟨(a:Int),(b:Int),(l:Int),(s:ByteArray)⟩ _ (hp:uw a b l s)
 show vc _ _ _ _ (entry [.int a,.int b,.int l,.str s] []) _
 unfold uw at hp
 refine⟨⟨tv2,aa⟩,λx1 w2=>⟨λw3=>?_,λw4=>⟨⟨tv2,?_⟩,λx5 w6=>⟨⟨⟨tv6,aa⟩,aa⟩,λx7 w8=>⟨λw9=>?_,λdB=>?_⟩⟩⟩⟩⟩
 all_goals first|refine aw ?_|refine ax ?_|exact bb|(dsimp only [IH,xT,dD,eO,E7,kJ];omega)|exact ba|(show kJ _;unfold kJ;omega)|skip
 ·refine⟨[],[],_,_,_,ζ,aC,(),aa,?_,?_,ζ⟩
  ·show _=AV.t [ptA (jQ a b l s).1,.s (.q (jQ a b l s).2)]
   rw [GX (pJ w3)];rfl
  ·rfl
 ·refine⟨[],[],_,_,_,ζ,aC,(),aa,?_,?_,ζ⟩
  ·show _=AV.t [ptA (jQ a b l s).1,.s (.q (jQ a b l s).2)]
   rw [GW (pJ w9)];rfl
  ·rfl
 ·refine⟨[],[],_,_,_,ζ,aC,(),aa,?_,?_,ζ⟩
  ·show _=AV.t [ptA (jQ a b l s).1,.s (.q (jQ a b l s).2)]
   rw [GV (cr w4) (cr dB)];rfl
  ·rfl
end GL
namespace GL
theorem sz0:(⟨#[]⟩:ByteArray).size=0:=rfl
theorem sz1 (a:UInt8):(⟨#[a]⟩:ByteArray).size=1:=rfl
def dec (k:Nat):ByteArray:=if k<10 then gp [48+(k:Int)] else dec (k / 10)++gp [48+((k % 10:Nat):Int)]
 termination_by k
 decreasing_by omega
def bL (n:Int):ByteArray:=dec n.toNat
def dec_lt {k:Nat}(h:k<10):dec k=gp [48+(k:Int)]:=by rw [dec,if_pos h]
def adq {k:Nat}(h:¬k<10):dec k=dec (k / 10)++gp [48+((k % 10:Nat):Int)]:=by rw [dec,if_neg h]
def vh (n:Int):(gp [n]).size=1:=by rw [gp,pc];rfl
def PH:∀(m k:Nat),k<10 ^ (m+1)->(dec k).size<=m+1
 |0,k,h=>by rw [dec_lt (by omega),vh];omega
 |m+1,k,h=>by
  by_cases hk:k<10
  ·rw [dec_lt hk,vh];omega
  ·rw [adq hk,ZB4,vh]
   have:=PH m (k / 10) (by rw [Nat.pow_succ] at h;omega)
   omega
def cM {n:Int}(h:n<=999999999999):(bL n).size<=12:=PH 11 n.toNat (by show _<1000000000000;omega)
def alP {n:Int}(h0:0<=n) (h:n<10):bL n=gp [48+n]:=by
 unfold bL
 rw [dec_lt (by omega),show ((n.toNat:Nat):Int)=n by omega]
def alQ {n:Int}(h0:0<=n) (h:¬n<10):bL n=bL (n / 10)++gp [48+n % 10]:=by
 unfold bL
 rw [adq (by omega),show ((n.toNat % 10:Nat):Int)=n % 10 by omega,show n.toNat / 10=(n / 10).toNat by omega]
def oi (n:Int):Prop:=0<=n/\n<=999999999999
def afw (n:Int):AV:=.str (bL n)
def ah8 (n:Int):List AV:=[]
def kX:cu where
 A:=[.s .int]
 B:=[]
 pre:=λx b=>oi x
 r:=λx b _=>afw x
 o:=λx b _=>ah8 x
def aiH (n:Int):Nat:=n.toNat
def zK:Has Tryz.prog 98 kX:=by
 refine Has.aqr (C:=kX) zT zF zF (λx b=>aiH x) (l:=[]) trivial Tryz.func98 ?_
 rintro (n:Int) _ (hp:oi n) ar7
 show vc _ _ _ _ (entry [.int n] []) _
 obtain⟨h1,h2⟩:=hp
 have hs:=cM (n:=n / 10) (by omega)
 refine⟨λw1=>?_,λw2=>⟨λw3=>⟨⟨?_,?_⟩,⟨tv2,⟨?_,?_⟩,?_⟩,λx4 w5=>⟨?_,?_⟩⟩,λw6=>⟨λw7=>⟨⟨?_,?_⟩,⟨?_,?_⟩,aa,⟨?_,?_⟩,?_⟩,λw8=>⟨Sq0,Sq18,ζ,Sq18,Sq19,ζ,⟨?_,?_,?_⟩,Sq19,Sq20,ζ,⟨tv2,⟨?_,?_⟩,?_⟩,?_,λx9 dB=>⟨Sq0,Sq21,ζ,Sq21,Sq22,ζ,⟨?_,?_⟩,Sq22,Sq23,ζ,⟨?_,?_⟩,Sq23,Sq24,ζ,⟨?_,?_⟩,[.s 24,.b 1025],[.s 25,.b 1025],ζ,aa,[.s 25,.b 1025],Sq26,ζ,⟨?_,?_⟩,[.s 20,.s 26],Sq27,ζ,?_,Sq27,Sq2,ζ,?_⟩⟩⟩⟩⟩
 all_goals first|(exfalso;simp only [decide_eq_true_eq,decide_eq_false_iff_not] at *;omega)|refine aw ?_|refine ax ?_|exact bb|exact ba|(simp only [dO,vh,imax];omega)|(show (n / 10).toNat<n.toNat;have:=aD w8;omega)|skip
 ·refine⟨[],[],_,_,_,ζ,aC,(),aa,?_,?_,ζ⟩
  ·show _=AV.str (bL n)
   rw [alP h1 (aF w7)];rfl
  ·rfl
 ·refine⟨[],[],_,_,_,ζ,aC,(),aa,?_,?_,ζ⟩
  ·show _=AV.str (bL n)
   rw [alQ h1 (aD w8)];rfl
  ·rfl
def bj (p:Pt):ByteArray:=
 bif bc p then (bif au p then ⟨#[45]⟩ else
  bL p.1++⟨#[46]⟩++bL p.2.1++⟨#[46]⟩++bL p.2.2.1++⟨#[46]⟩++bL p.2.2.2.1++⟨#[46]⟩++bL p.2.2.2.2) else ⟨#[]⟩
def px {p:Pt}(h:bc p=true):(0<=p.1/\p.1<=63)/\(0<=p.2.1/\p.2.1<=900)/\(0<=p.2.2.1/\p.2.2.1<=128)/\(0<=p.2.2.2.1/\p.2.2.2.1<=99460728)/\0<=p.2.2.2.2/\p.2.2.2.2<=2:=by
 unfold bc au at h
 simp only [Bool.or_eq_true,ZB1,decide_eq_true_eq,cy] at h
 omega
def fH (p:Pt):(bj p).size<=64:=by
 unfold bj
 cases h:bc p with
 |false=>exact ZA7 _
 |true=>
  obtain⟨h1,h2,h3,h4,h5⟩:=px h
  cases au p with
  |true=>show (1:Nat)<=64;omega
  |false=>
   simp only [cond_true,cond_false,ZB4,sz1]
   have a1:=cM (n:=p.1) (by omega)
   have a2:=cM (n:=p.2.1) (by omega)
   have a3:=cM (n:=p.2.2.1) (by omega)
   have a4:=cM (n:=p.2.2.2.1) (by omega)
   have a5:=cM (n:=p.2.2.2.2) (by omega)
   omega
def rI (p:Pt):Prop:=True
def abR (p:Pt):AV:=.str (bj p)
def af9 (p:Pt):List AV:=[]
def so:cu where
 A:=[.a [.int,.int,.int,.int,.int]]
 B:=[]
 pre:=λx b=>rI x
 r:=λx b _=>abR x
 o:=λx b _=>af9 x
def OM:Has Tryz.prog 99 so:=by
 refine Has.fP zT zF zF (l:=[(61,dD),(62,cN),(98,kX)]) ⟨js,cQ,zK,aa⟩ Tryz.func99 ?_
 rintro⟨(p1:Int),(p2:Int),(p3:Int),(p4:Int),(p5:Int)⟩ _ (hp:rI (p1,p2,p3,p4,p5))
 show vc _ _ _ _ (entry [.a [.int p1,.int p2,.int p3,.int p4,.int p5]] []) _
 by_cases cn:bc (p1,p2,p3,p4,p5)=true
 ·obtain⟨⟨b1,b2⟩,⟨b3,b4⟩,⟨b5,b6⟩,⟨b7,b8⟩,b9,b10⟩:=px cn
  dsimp only at b1 b2 b3 b4 b5 b6 b7 b8 b9 b10
  have a1:=cM (n:=p1) (by omega)
  have a2:=cM (n:=p2) (by omega)
  have a3:=cM (n:=p3) (by omega)
  have a4:=cM (n:=p4) (by omega)
  have a5:=cM (n:=p5) (by omega)
  refine⟨⟨⟨tv6,aa⟩,aa⟩,λx1 w2=>⟨λw3=>?_,λw4=>⟨⟨⟨tv6,aa⟩,aa⟩,λx5 w6=>⟨λw7=>?_,λw8=>⟨Sq1,Sq8,ζ,[.s 8,.b 1001],Sq9,ζ,Sq9,Sq10,ζ,⟨tv2,?_,?_⟩,?_,λx9 dB=>⟨Sq10,Sq11,ζ,?_,Sq1,Sq12,ζ,[.s 12,.b 1001],Sq13,ζ,Sq13,Sq14,ζ,⟨tv2,?_,?_⟩,?_,λlJ dW=>⟨[.s 11,.s 14],Sq15,ζ,?_,Sq15,Sq16,ζ,?_,Sq1,Sq17,ζ,[.s 17,.b 1001],Sq18,ζ,Sq18,Sq19,ζ,⟨tv2,?_,?_⟩,?_,λtY gY=>⟨[.s 16,.s 19],Sq20,ζ,?_,Sq20,Sq21,ζ,?_,Sq1,Sq22,ζ,[.s 22,.b 1001],Sq23,ζ,Sq23,Sq24,ζ,⟨tv2,?_,?_⟩,?_,λnN kC=>⟨[.s 21,.s 24],Sq25,ζ,?_,Sq25,Sq26,ζ,?_,Sq1,Sq27,ζ,[.s 27,.b 1001],Sq28,ζ,Sq28,Sq29,ζ,⟨tv2,?_,?_⟩,?_,λx17 qU=>⟨[.s 26,.s 29],Sq30,ζ,?_,Sq30,Sq2,ζ,?_⟩⟩⟩⟩⟩⟩⟩⟩⟩⟩
  all_goals first|refine aw ?_|refine ax ?_|exact bb|(dsimp only [dD,eO,kX,oi];omega)|exact ba|(simp only [ZB4,sz1,imax];omega)|skip
  ·rw [cn] at w3;cases w3
  ·refine⟨[],[],_,_,_,ζ,aC,(),aa,?_,?_,ζ⟩
   ·show _=AV.str (bj (p1,p2,p3,p4,p5))
    unfold bj;rw [cn,w7];rfl
   ·rfl
  ·refine⟨[],[],_,_,_,ζ,aC,(),aa,?_,?_,ζ⟩
   ·show _=AV.str (bj (p1,p2,p3,p4,p5))
    unfold bj;rw [cn,w8];rfl
   ·rfl
 ·have tV:bc (p1,p2,p3,p4,p5)=false:=by simpa using cn
  refine⟨⟨tv6,aa⟩,aa⟩ |> λh=>⟨h,λx1 w2=>⟨λw3=>?_,λw4=>?_⟩⟩
  ·refine⟨[],[],_,_,_,ζ,aC,(),aa,?_,?_,ζ⟩
   ·show _=AV.str (bj (p1,p2,p3,p4,p5))
    unfold bj;rw [tV];rfl
   ·rfl
  ·rw [tV] at w4;cases w4
end GL
namespace GL
def BO (sp:List Int×List Int):Prop:=sp.1.length<=1000000/\sp.2.length<=1000000
def abQ (sp:List Int×List Int):AV:=.a [.xs 0 1 0 sp.1.length,.xs 1 1 0 sp.2.length]
def af2 (sp:List Int×List Int):List AV:=[.rs ag sp.1,.rs ag sp.2]
def PY:cu where
 A:=[.a [.vz ag,.vz ag]]
 B:=[]
 pre:=λx b=>BO x
 r:=λx b _=>abQ x
 o:=λx b _=>af2 x
 nf:=2
def ai5:Has Tryz.prog 85 PY:=by
 refine Has.fP zT zF zF (l:=[]) trivial Tryz.func85 ?_
 rintro⟨(dX:List Int),(fo:List Int)⟩ _ (hp:BO (dX,fo))
 show vc _ _ _ _ (entry [.a [.vz ag dX,.vz ag fo]] []) _
 obtain⟨(h1:dX.length<=1000000),(h2:fo.length<=1000000)⟩:=hp
 refine⟨[.b 1003],[.s 3,.b 1003],ζ,aa,Sq1,Sq4,ζ,[.s 4,.b 1001],Sq5,ζ,[.s 3,.s 5,.b 1003,.b 1006],[.s 6,.b 1006,.b 1003],ζ,⟨⟨?_,?_⟩,aa⟩,[.b 1007],[.s 7,.b 1007],ζ,aa,Sq1,Sq8,ζ,[.s 8,.b 1001],Sq9,ζ,[.s 7,.s 9,.b 1007,.b 1010],[.s 10,.b 1010,.b 1007],ζ,⟨⟨?_,?_⟩,aa⟩,[.s 6,.s 10],Sq11,ζ,[.s 2,.s 11,.b 1002],[.b 1002],ζ,?_⟩
 all_goals first|refine aw ?_|refine ax ?_|exact bb|exact ba|(simp only [dO,ZA4];omega)|skip
 refine⟨[1006,1010],[],_,_,_,ζ,aC,(),aa,?_,?_,ζ⟩
 ·show AV.a [.xs 0 1 0 (0+dX.length),.xs 1 1 0 (0+fo.length)]=AV.a [.xs 0 1 0 dX.length,.xs 1 1 0 fo.length]
  rw [ZA6,ZA6]
 ·rfl
def ay.small (s:ay):Prop:=s.rows.length<=1000000/\s.refs.length<=1000000/\s.last.length<=1000000/\s.gone.length<=1000000/\s.dead.length<=1000000
def rz (S:ay):Prop:=S.small
def abL (S:ay):AV:=.a (nH 0 1 2 3 4 S)
def afX (S:ay):List AV:=KF S
def kq:cu where
 A:=[.a vj]
 B:=[]
 pre:=λx b=>rz x
 r:=λx b _=>abL x
 o:=λx b _=>afX x
 nf:=5
def OC:Has Tryz.prog 47 kq:=by
 refine Has.fP zT zF zF (l:=[(85,PY)]) ⟨ai5,aa⟩ Tryz.func47 ?_
 rintro⟨(aj:List ByteArray),(ak:List Int),(an:List Int),(ao:Int),(ah:List Pt),(aq:Int),(ai:List Pt),(ar:Bool)⟩ _ (hp:rz (aj,ak,an,ao,ah,aq,ai,ar))
 show vc _ _ _ _ (entry [.a [.vz ab aj,.vz ag ak,.vz ag an,.int ao,.vz ae ah,.int aq,.vz ae ai,.q ar]] []) _
 obtain⟨h1,h2,h3,h4,h5⟩:=hp
 dsimp only [ay.rows,ay.refs,ay.last,ay.gone,ay.dead] at h1 h2 h3 h4 h5
 refine⟨aa,⟨⟨?_,?_⟩,aa⟩,⟨⟨tv3,aa⟩,?_,?_⟩,λx1 w2=>⟨aa,⟨⟨?_,?_⟩,aa⟩,aa,⟨⟨?_,?_⟩,aa⟩,?_⟩⟩
 all_goals first|refine aw ?_|refine ax ?_|exact bb|(dsimp only [PY,BO];omega)|exact ba|(simp only [dO,ZA4];omega)|skip
 refine⟨[1006,110000,110001,1015,1020],[],_,_,_,ζ,aC,(),aa,?_,?_,ζ⟩
 ·exact congrArg AV.a (xy (s:=(aj,ak,an,ao,ah,aq,ai,ar)) (ZA6 _) rfl rfl rfl (ZA6 _) rfl (ZA6 _) rfl)
 ·rfl
def inL (l:List Int) (n:Int):Bool:=decide (n∈l)
def bS {ek:EK}{l:List (EK.Ty ek)}{k:Nat}(h:k<l.length):nth ek l k∈l:=by
 have:=qe h
 exact ZB8 this
def DV (l:List Int) (n:Int):Prop:=l.length<=1000000
def ahK (l:List Int) (n:Int):AV:=.q (inL l n)
def ak3 (l:List Int) (n:Int):List AV:=[]
def W1:cu where
 A:=[.s (.vz ag),.s .int]
 B:=[]
 pre:=λx b=>DV (x.1) (x.2)
 r:=λx b _=>ahK (x.1) (x.2)
 o:=λx b _=>ak3 (x.1) (x.2)
def ai2:Has Tryz.prog 136 W1:=by
 refine Has.fP zT zF zF (l:=[]) trivial Tryz.func136 ?_
 rintro⟨(l:List Int),(n:Int)⟩ _ (hp:DV l n)
 show vc _ _ _ _ (entry [.s (.vz ag l),.int n] []) _
 unfold DV at hp
 refine df (l:=[]) (ex:=zT) (wr:=zF) (pt:=zF) trivial [.s 0,.s 1] (λi:Nat=>[(.s 5,.int i)]) (λi=>i<=l.length/\∀j,j<i->nth ag l j≠n) (λi=>l.length-i) 0 [] ⟨ZA7 _,λj hj=>absurd hj (by omega)⟩ (by repeat' (first|exact trivial|rfl|exact rfl|exact iO (ZA6 _)|apply And.intro)) ?_
 rintro i ⟨hi,tV⟩
 refine⟨λw1=>⟨⟨?_,?_⟩,⟨λw2=>?_,λw3=>⟨⟨?_,?_⟩,?_⟩⟩⟩,λw4=>?_⟩
 all_goals first|refine aw ?_|refine ax ?_|exact bb|exact ba|skip
 ·have bR:i<l.length:=by have:=aF w1;omega
  refine⟨[],[],_,_,_,ζ,aC,(),aa,?_,?_,ζ⟩
  ·show AV.q true=AV.q (inL l n)
   rw [show inL l n=true from decide_eq_true (by rw [<-aF w2];exact bS bR)]
  ·rfl
 ·have bR:i<l.length:=by have:=aF w1;omega
  refine⟨(i+1),[],?_,?_,?_⟩
  rotate_right
  ·repeat' (first|exact trivial|rfl|exact rfl|exact iO ZA0.symm|exact sJ|apply And.intro)
  ·refine⟨bR,λj hj=>?_⟩
   by_cases e:j=i
   ·subst e;exact aD w3
   ·exact tV j (by omega)
  ·show l.length-(i+1)<l.length-i
   omega
 ·have wZ:i=l.length:=by have:¬((i:Int)<(l.length:Int)):=aD w4;omega
  refine⟨[],[],_,_,_,ζ,aC,(),aa,?_,?_,ζ⟩
  ·show AV.q false=AV.q (inL l n)
   rw [show inL l n=false from decide_eq_false (λhm=>by
    obtain⟨j,hj,e⟩:=List.getElem_of_mem hm
    have h1:=qe (ek:=ag) hj
    rw [ZB2 hj,e] at h1
    exact tV j (by omega) (ZF4 h1).symm)]
  ·rfl
def findF:Nat->Nat->List Int->Int
 |0,_,_=> -1
 |f+1,i,rf=>bif decide (nth ag rf i=0) then (i:Int) else findF f (i+1) rf
def pR (rf:List Int):Int:=findF 56 8 rf
def aaU:∀(f i:Nat) (rf:List Int),findF f i rf= -1\/((i:Int)<=findF f i rf/\findF f i rf<i+f)
 |0,_,_=>.inl rfl
 |f+1,i,rf=>by
  unfold findF
  cases decide (nth ag rf i=0) with
  |true=>right;simp only [cond_true];omega
  |false=>
   simp only [cond_false]
   rcases aaU f (i+1) rf with h |h
   ·exact .inl h
   ·right;omega
def aaT (rf:List Int):pR rf= -1\/(8<=pR rf/\pR rf<64):=aaU 56 8 rf
def BN (sp:List Int×List Int) (fr:Int) (bu:List Int):Prop:=sp.1.length=64/\fr=8/\bu=[]
def abP (sp:List Int×List Int) (fr:Int) (bu:List Int):AV:=.int (pR sp.1)
def af1 (sp:List Int×List Int) (fr:Int) (bu:List Int):List AV:=[]
def PX:cu where
 A:=[.a [.vz ag,.vz ag],.s .int,.s (.vz ag)]
 B:=[]
 pre:=λx b=>BN (x.1) (x.2.1) (x.2.2)
 r:=λx b _=>abP (x.1) (x.2.1) (x.2.2)
 o:=λx b _=>af1 (x.1) (x.2.1) (x.2.2)
def ai4:Has Tryz.prog 92 PX:=by
 refine Has.fP zT zF zF (l:=[(106,qz),(136,W1)]) ⟨EB,ai2,aa⟩ Tryz.func92 ?_
 rintro⟨⟨(dX:List Int),(fo:List Int)⟩,(fr:Int),(bu:List Int)⟩ _ (hp:BN (dX,fo) fr bu)
 show vc _ _ _ _ (entry [.a [.vz ag dX,.vz ag fo],.int fr,.s (.vz ag bu)] []) _
 obtain⟨(h1:dX.length=64),rfl,rfl⟩:=hp
 refine⟨⟨⟨trivial,trivial⟩,trivial⟩,λx1 w1=>⟨λw2=>absurd w2 (by decide),λw3=>?_⟩⟩
 refine df (l:=[(106,qz),(136,W1)]) (ex:=zT) (wr:=zF) (pt:=zF) ⟨EB,ai2,trivial⟩ [.s 1,.s 2,.s 3,.s 7,.b 1003] (λi:Nat=>[(.s 8,.int i)]) (λi=>i<=56/\findF (56-i) (8+i) dX=pR dX) (λi=>56-i) 0 [] ⟨ZA7 _,rfl⟩ (by repeat' (first|exact trivial|rfl|exact rfl|exact iO (ZA6 _)|apply And.intro)) ?_
 rintro i ⟨hi,hr⟩
 have ac1:i<56->(8+(8-8+(i:Int)) % 56).toNat=8+i:=λh=>by omega
 refine⟨λw1=>⟨⟨?_,?_⟩,⟨?_,?_⟩,⟨?_,?_⟩,⟨?_,?_⟩,⟨?_,?_⟩,aa,λw2=>⟨⟨tv3,?_⟩,λx3 w4=>⟨λw5=>?_,λw6=>⟨⟨?_,?_⟩,?_⟩⟩⟩,λw7=>⟨⟨?_,?_⟩,?_⟩⟩,λw8=>?_⟩
 all_goals first|refine aw ?_|refine ax ?_|exact bb|(dsimp only [qz,ur,W1,DV];omega)|exact ba|exact ZA7 _|skip
 ·have bR:i<56:=by have:=aF w1;omega
  have h2:=aF w2
  rw [ac1 bR] at h2
  refine⟨[],[],_,_,_,ζ,aC,(),aa,?_,?_,ζ⟩
  ·show AV.int (8+(8-8+(i:Int)) % 56)=AV.int (pR dX)
   rw [<-hr,show 56-i=(55-i)+1 by omega,findF,decide_eq_true h2]
   show AV.int _=AV.int ((8+i:Nat):Int)
   rw [show 8+(8-8+(i:Int)) % 56=((8+i:Nat):Int) by omega]
  ·rfl
 ·exact absurd (show true=false from w6) (by decide)
 ·have bR:i<56:=by have:=aF w1;omega
  have h2:=aD w7
  rw [ac1 bR] at h2
  refine⟨(i+1),[],?_,?_,?_⟩
  rotate_right
  ·repeat' (first|exact trivial|rfl|exact rfl|exact iO ZA0.symm|exact sJ|apply And.intro)
  ·refine⟨bR,?_⟩
   rw [<-hr,show 56-i=(56-(i+1))+1 by omega,findF,decide_eq_false h2]
   rfl
  ·show 56-(i+1)<56-i
   omega
 ·have wZ:i=56:=by have:¬((i:Int)<56):=aD w8;omega
  subst wZ
  refine⟨[],[],_,_,_,ζ,aC,(),aa,?_,?_,ζ⟩
  ·show AV.int (-1)=AV.int (pR dX)
   rw [<-hr];rfl
  ·rfl
def yl (s:ay) (text:ByteArray) (i:Nat):Bool:=decide (nth ab s.rows i=text)&&(decide (nth ag s.last i<s.cz)&&decide (nth ag s.refs i<s.cz))
def uH:Nat->Nat->ay->ByteArray->Int
 |0,_,_,_=> -1
 |f+1,i,s,text=>bif yl s text i then (i:Int) else uH f (i+1) s text
def sY (s:ay) (text:ByteArray):Int:=uH 56 8 s text
def aaf:∀(f i:Nat) (s:ay) (text:ByteArray),uH f i s text= -1\/((i:Int)<=uH f i s text/\uH f i s text<i+f)
 |0,_,_,_=>.inl rfl
 |f+1,i,s,text=>by
  unfold uH
  cases yl s text i with
  |true=>right;simp only [cond_true];omega
  |false=>
   simp only [cond_false]
   rcases aaf f (i+1) s text with h |h
   ·exact .inl h
   ·right;omega
def aae (s:ay) (text:ByteArray):sY s text= -1\/(8<=sY s text/\sY s text<64):=aaf 56 8 s text
def BI (S:ay) (text:ByteArray):Prop:=S.n64
def abI (S:ay) (text:ByteArray):AV:=.int (sY S text)
def afV (S:ay) (text:ByteArray):List AV:=[]
def PU:cu where
 A:=[.a vj,.s .str]
 B:=[]
 pre:=λx b=>BI (x.1) (x.2)
 r:=λx b _=>abI (x.1) (x.2)
 o:=λx b _=>afV (x.1) (x.2)
def aiZ:Has Tryz.prog 91 PU:=by
 refine Has.fP zT zF zF (l:=[]) trivial Tryz.func91 ?_
 rintro⟨⟨(aj:List ByteArray),(ak:List Int),(an:List Int),(ao:Int),(ah:List Pt),(aq:Int),(ai:List Pt),(ar:Bool)⟩,(text:ByteArray)⟩ _ (hp:BI (aj,ak,an,ao,ah,aq,ai,ar) text)
 show vc _ _ _ _ (entry [.a [.vz ab aj,.vz ag ak,.vz ag an,.int ao,.vz ae ah,.int aq,.vz ae ai,.q ar],.str text] []) _
 let A':=(aj,ak,an,ao,ah,aq,ai,ar)
 obtain⟨l1,l2,l3⟩:=hp
 dsimp only [ay.rows,ay.refs,ay.last] at l1 l2 l3
 refine df (l:=[]) (ex:=zT) (wr:=zF) (pt:=zF) trivial [.s 1,.s 2,.b 1002] (λi:Nat=>[(.s 5,.int ((8+i:Nat):Int))]) (λi=>i<=56/\uH (56-i) (8+i) A' text=sY A' text) (λi=>56-i) 0 [] ⟨ZA7 _,rfl⟩ (by repeat' (first|exact trivial|rfl|exact rfl|exact iO (ZA6 _)|apply And.intro)) ?_
 rintro i ⟨hi,hr⟩
 have ac1:(((8+i:Nat):Int)).toNat=8+i:=rfl
 have ajj:(((8+i:Nat):Int)<64)↔i<56:=by omega
 have cP:i<56->uH (56-i) (8+i) A' text=bif yl A' text (8+i) then ((8+i:Nat):Int) else uH (55-i) (8+i+1) A' text:=λh=>by
  rw [show 56-i=(55-i)+1 by omega,uH]
 refine⟨λw1=>⟨Sq2,Sq10,ζ,[.s 10,.b 1002],Sq11,ζ,Sq5,Sq12,ζ,[.s 11,.s 12],Sq13,ζ,⟨?_,?_⟩,Sq13,Sq14,ζ,Sq1,Sq15,ζ,[.s 14,.s 15],Sq16,ζ,Sq16,Sq17,ζ,aa,λw2=>⟨[.s 17,.s 2],Sq18,ζ,[.s 17,.s 18],Sq19,ζ,[.s 17,.s 19,.b 1002],Sq20,ζ,[.s 17,.s 5],Sq21,ζ,[.s 17,.s 20,.s 21],Sq22,ζ,⟨?_,?_⟩,[.s 17,.s 22],Sq23,ζ,[.s 17,.s 2],Sq24,ζ,[.s 17,.s 24,.b 1002],Sq25,ζ,[.s 17,.s 23,.s 25],Sq26,ζ,[.s 17,.s 26],Sq27,ζ,Sq27,Sq28,ζ,aa,λw3=>⟨[.s 28,.s 2],Sq29,ζ,[.s 28,.s 29],Sq30,ζ,[.s 28,.s 30,.b 1002],Sq31,ζ,[.s 28,.s 5],Sq32,ζ,[.s 28,.s 31,.s 32],Sq33,ζ,⟨?_,?_⟩,[.s 28,.s 33],Sq34,ζ,[.s 28,.s 2],Sq35,ζ,[.s 28,.s 35,.b 1002],Sq36,ζ,[.s 28,.s 34,.s 36],Sq37,ζ,[.s 28,.s 37],Sq38,ζ,λw4=>?_,λw5=>⟨⟨?_,?_⟩,?_⟩⟩,λw6=>⟨Sq28,Sq29,ζ,Sq28,Sq30,ζ,Sq28,Sq31,ζ,Sq28,Sq32,ζ,Sq28,Sq33,ζ,Sq28,Sq34,ζ,Sq28,Sq35,ζ,Sq28,Sq36,ζ,Sq28,Sq37,ζ,[.s 28,.s 37],Sq38,ζ,⟨?_,?_⟩,?_⟩⟩,λw7=>⟨Sq17,Sq18,ζ,Sq17,Sq19,ζ,Sq17,Sq20,ζ,Sq17,Sq21,ζ,Sq17,Sq22,ζ,Sq17,Sq23,ζ,Sq17,Sq24,ζ,Sq17,Sq25,ζ,Sq17,Sq26,ζ,[.s 17,.s 26],Sq27,ζ,Sq27,Sq28,ζ,Sq28,Sq29,ζ,Sq28,Sq30,ζ,Sq28,Sq31,ζ,Sq28,Sq32,ζ,Sq28,Sq33,ζ,Sq28,Sq34,ζ,Sq28,Sq35,ζ,Sq28,Sq36,ζ,Sq28,Sq37,ζ,[.s 28,.s 37],Sq38,ζ,⟨?_,?_⟩,?_⟩⟩,λw8=>?_⟩
 all_goals first|refine aw ?_|refine ax ?_|exact bb|exact ba|skip
 ·have bR:i<56:=ajj.1 (aF w1)
  rw [ac1] at w2 w3 w4
  refine⟨[],[],_,_,_,ζ,aC,(),aa,?_,?_,ζ⟩
  ·show AV.int ((8+i:Nat):Int)=AV.int (sY A' text)
   have e:yl A' text (8+i)=true:=by show (decide _&&(decide _&&decide _))=true;rw [w2,w3,w4];rfl
   rw [<-hr,cP bR,e]
   rfl
  ·rfl
 ·have bR:i<56:=ajj.1 (aF w1)
  rw [ac1] at w2 w3 w5
  have e:yl A' text (8+i)=false:=by show (decide _&&(decide _&&decide _))=false;rw [w2,w3,w5];rfl
  refine⟨(i+1),[],?_,?_,?_⟩
  rotate_right
  ·repeat' (first|exact trivial|rfl|exact rfl|exact iO ZA0.symm|exact sJ|apply And.intro)
  ·refine⟨bR,?_⟩
   rw [<-hr,cP bR,e,show 56-(i+1)=55-i by omega]
   rfl
  ·show 56-(i+1)<56-i
   omega
 ·have bR:i<56:=ajj.1 (aF w1)
  rw [ac1] at w2 w6
  have e:yl A' text (8+i)=false:=by show (decide _&&(decide _&&decide _))=false;rw [w2,w6];rfl
  refine⟨(i+1),[],?_,?_,?_⟩
  rotate_right
  ·repeat' (first|exact trivial|rfl|exact rfl|exact iO ZA0.symm|exact sJ|apply And.intro)
  ·refine⟨bR,?_⟩
   rw [<-hr,cP bR,e,show 56-(i+1)=55-i by omega]
   rfl
  ·show 56-(i+1)<56-i
   omega
 ·have bR:i<56:=ajj.1 (aF w1)
  rw [ac1] at w7
  have e:yl A' text (8+i)=false:=by show (decide _&&(decide _&&decide _))=false;rw [w7];rfl
  refine⟨(i+1),[],?_,?_,?_⟩
  rotate_right
  ·repeat' (first|exact trivial|rfl|exact rfl|exact iO ZA0.symm|exact sJ|apply And.intro)
  ·refine⟨bR,?_⟩
   rw [<-hr,cP bR,e,show 56-(i+1)=55-i by omega]
   rfl
  ·show 56-(i+1)<56-i
   omega
 ·have wZ:i=56:=by
   have h3:¬(i<56):=λh=>aD w8 (ajj.2 h)
   omega
  subst wZ
  refine⟨[],[],_,_,_,ζ,aC,(),aa,?_,?_,ζ⟩
  ·show AV.int (-1)=AV.int (sY A' text)
   rw [<-hr];rfl
  ·rfl
theorem P7 {b:Bool}(h:(!b)=true):b=false:=by cases b with |true=>cases h |false=>rfl
theorem qi {b:Bool}(h:(!b)=false):b=true:=by cases b with |true=>rfl |false=>cases h
def bB (s:ay) (p:Pt):ByteArray×Bool:=
 bif au p then (⟨#[]⟩,true) else bif iN p (nth ab s.rows p.1.toNat) then (nth ab s.rows p.1.toNat,true) else (⟨#[]⟩,false)
def fw {s:ay}{p:Pt}(h:au p=true):bB s p=(⟨#[]⟩,true):=by unfold bB;rw [h];rfl
def vD {s:ay}{p:Pt}(h:au p=false) (h2:iN p (nth ab s.rows p.1.toNat)=true):bB s p=(nth ab s.rows p.1.toNat,true):=by unfold bB;rw [h,h2];rfl
def GR {s:ay}{p:Pt}(h:au p=false) (h2:iN p (nth ab s.rows p.1.toNat)=false):bB s p=(⟨#[]⟩,false):=by unfold bB;rw [h,h2];rfl
def ay.szs (s:ay):Prop:=∀x∈s.rows,x.size<=1000000
def gJ (S:ay) (p:Pt):Prop:=S.szs/\0<=p.1/\p.1<S.rows.length
def abH (S:ay) (p:Pt):AV:=.t [.s (.str (bB S p).1),.s (.q (bB S p).2)]
def afU (S:ay) (p:Pt):List AV:=[]
def fb:cu where
 A:=[.a vj,.a [.int,.int,.int,.int,.int]]
 B:=[]
 pre:=λx b=>gJ (x.1) (x.2)
 r:=λx b _=>abH (x.1) (x.2)
 o:=λx b _=>afU (x.1) (x.2)
def ns:Has Tryz.prog 50 fb:=by
 refine Has.fP zT zF zF (l:=[(62,cN),(90,uX)]) ⟨cQ,SR,aa⟩ Tryz.func50 ?_
 rintro⟨⟨(aj:List ByteArray),(ak:List Int),(an:List Int),(ao:Int),(ah:List Pt),(aq:Int),(ai:List Pt),(ar:Bool)⟩,⟨(p1:Int),(p2:Int),(p3:Int),(p4:Int),(p5:Int)⟩⟩ _ (hp:gJ (aj,ak,an,ao,ah,aq,ai,ar) (p1,p2,p3,p4,p5))
 show vc _ _ _ _ (entry [.a [.vz ab aj,.vz ag ak,.vz ag an,.int ao,.vz ae ah,.int aq,.vz ae ai,.q ar],.a [.int p1,.int p2,.int p3,.int p4,.int p5]] []) _
 let A':=(aj,ak,an,ao,ah,aq,ai,ar)
 let B':=(p1,p2,p3,p4,p5)
 obtain⟨h1,(h2:0<=p1),(h3:p1<aj.length)⟩:=hp
 have db:(nth ab aj p1.toNat).size<=1000000:=h1 _ (bS (ek:=ab) (show p1.toNat<aj.length by omega))
 refine⟨⟨⟨tv6,aa⟩,aa⟩,λx1 w2=>⟨λw3=>?_,λw4=>⟨[.s 3,.b 1003],Sq8,ζ,Sq2,Sq9,ζ,[.s 9,.b 1002],Sq10,ζ,Sq3,Sq11,ζ,[.s 11,.b 1003],Sq12,ζ,[.s 10,.s 12],Sq13,ζ,⟨?_,?_⟩,Sq13,Sq14,ζ,[.s 8,.s 14],Sq15,ζ,⟨⟨tv6,tv2⟩,?_⟩,?_,λx5 w6=>⟨Sq15,Sq16,ζ,λw7=>?_,λw8=>⟨⟨?_,?_⟩,?_⟩⟩⟩⟩⟩
 all_goals first|refine aw ?_|refine ax ?_|exact bb|(dsimp only [uX,pD];omega)|exact ba|(show ((nth ab aj p1.toNat).size:Int)<=1000000000000;omega)|skip
 ·refine⟨[],[],_,_,_,ζ,aC,(),aa,?_,?_,ζ⟩
  ·show AV.t [.s (.str ⟨#[]⟩),.s (.q true)]=AV.t [.s (.str (bB A' B').1),.s (.q (bB A' B').2)]
   rw [fw w3]
  ·rfl
 ·refine⟨[],[],_,_,_,ζ,aC,(),aa,?_,?_,ζ⟩
  ·show AV.t [.s (.str ⟨#[]⟩),.s (.q false)]=AV.t [.s (.str (bB A' B').1),.s (.q (bB A' B').2)]
   rw [GR w4 (P7 w7)]
  ·rfl
 ·refine⟨[],[],_,_,_,ζ,aC,(),aa,?_,?_,ζ⟩
  ·show AV.t [.s (.str (nth ab aj p1.toNat)),.s (.q true)]=AV.t [.s (.str (bB A' B').1),.s (.q (bB A' B').2)]
   rw [vD w4 (qi w8)]
  ·rfl
end GL
namespace GL
def FU (s:ay) (text:ByteArray) (level:Int):Int:=bif s.same&&decide (level=0) then sY s text else -1
def dK (s:ay) (text:ByteArray) (level:Int):Int:=bif decide (FU s text level<0) then pR s.refs else FU s text level
def xn (s:ay) (text:ByteArray) (k:Nat):ay:=
 (s.rows.set k text,s.refs.set k (z8 (nth ag s.refs k+1)),s.last.set k s.cz,s.cz,s.gone,s.cm,s.dead,s.same)
def bm (s:ay) (text:ByteArray) (level:Int):ay×Pt×Bool:=
 bif decide (dK s text level<0) then (s,ch,false)
 else bif (jQ (dK s text level) s.cz level text).2 then (xn s text (dK s text level).toNat,(jQ (dK s text level) s.cz level text).1,true)
 else (s,ch,false)
def zg {s:ay}{text:ByteArray}{level:Int}(h1:s.same=true) (h2:decide (level=0)=true) (h3:decide (sY s text<0)=true):dK s text level=pR s.refs:=by
 unfold dK FU;rw [h1,h2,show (true&&true)=true from rfl,cond_true,h3];rfl
def FT {s:ay}{text:ByteArray}{level:Int}(h1:s.same=true) (h2:decide (level=0)=true) (h3:decide (sY s text<0)=false):dK s text level=sY s text:=by
 unfold dK FU;rw [h1,h2,show (true&&true)=true from rfl,cond_true,h3];rfl
def zf {s:ay}{text:ByteArray}{level:Int}(h2:decide (level=0)=false):dK s text level=pR s.refs:=by
 unfold dK FU;rw [h2,ZD7];rfl
def ze {s:ay}{text:ByteArray}{level:Int}(h1:s.same=false):dK s text level=pR s.refs:=by
 unfold dK FU;rw [h1,Bool.false_and];rfl
def o8 {s:ay}{text:ByteArray}{level a:Int}(e:dK s text level=a) (h:decide (a<0)=true):bm s text level=(s,ch,false):=by
 unfold bm;rw [e,h];rfl
def nU {s:ay}{text:ByteArray}{level a:Int}(e:dK s text level=a) (h:decide (a<0)=false) (h2:(!(jQ a s.cz level text).2)=true):bm s text level=(s,ch,false):=by
 unfold bm;rw [e,h,P7 h2];rfl
def qB {s:ay}{text:ByteArray}{level a:Int}(e:dK s text level=a) (h:decide (a<0)=false) (h2:(!(jQ a s.cz level text).2)=false):bm s text level=(xn s text a.toNat,(jQ a s.cz level text).1,true):=by
 unfold bm;rw [e,h,qi h2];rfl
def py (S:ay) (text:ByteArray) (level:Int):Prop:=S.n64/\(text.size:Int)<=1000000000000
def YE (S:ay) (text:ByteArray) (level:Int):AV:=.t [.a (nH 0 1 2 3 4 (bm S text level).1),ptA (bm S text level).2.1,.s (.q (bm S text level).2.2)]
def ab6 (S:ay) (text:ByteArray) (level:Int):List AV:=KF (bm S text level).1
def oK:cu where
 A:=[.a (stB 0 1 2 3 4),.s .str,.s .int]
 B:=[.r ab,.r ag,.r ag,.r ae,.r ae]
 pre:=λx b=>stW x.1 b/\py (iE x.1 b) (x.2.1) (x.2.2)
 r:=λx b _=>YE (iE x.1 b) (x.2.1) (x.2.2)
 o:=λx b _=>ab6 (iE x.1 b) (x.2.1) (x.2.2)
def HS:Has Tryz.prog 51 oK:=by
 refine Has.fP zT (λd=>Nat.beq d 59) zF (l:=[(91,PU),(92,PX),(86,E9)]) ⟨aiZ,ai4,aeC,aa⟩ Tryz.func51 ?_
 rintro⟨⟨(C7:Nat),(C6:Nat),(C5:Nat),(ao:Int),(C4:Nat),(aq:Int),(C3:Nat),(ar:Bool)⟩,(text:ByteArray),(level:Int)⟩ ⟨(aj:List ByteArray),(ak:List Int),(an:List Int),(ah:List Pt),(ai:List Pt)⟩ ⟨⟨(gR:C7=List.length aj),(gQ:C6=List.length ak),(gP:C5=List.length an),(gO:C4=List.length ah),(gN:C3=List.length ai)⟩,(hp:py (aj,ak,an,ao,ah,aq,ai,ar) text level)⟩
 subst gR gQ gP gO gN
 show vc _ _ _ _ (entry [.a [.xs 0 1 0 aj.length,.xs 1 1 0 ak.length,.xs 2 1 0 an.length,.int ao,.xs 3 5 0 ah.length,.int aq,.xs 4 5 0 ai.length,.q ar],.str text,.int level] [.rs ab aj,.rs ag ak,.rs ag an,.rs ae ah,.rs ae ai]) _
 obtain⟨⟨l1,l2,l3⟩,hs⟩:=hp
 dsimp only [ay.rows,ay.refs,ay.last] at l1 l2 l3
 have hL:=aae (aj,ak,an,ao,ah,aq,ai,ar) text
 have hF:=aaT ak
 refine⟨aa,λw1=>⟨λw2=>⟨⟨⟨⟨⟨?_,?_⟩,⟨?_,?_⟩,⟨?_,?_⟩,aa,⟨?_,?_⟩,aa,⟨?_,?_⟩,tv2⟩,tv2⟩,?_,?_,?_⟩,λx3 w4=>⟨λw5=>⟨aa,⟨⟨⟨⟨?_,?_⟩,⟨?_,?_⟩,aa⟩,aa,⟨?_,?_⟩,aa⟩,?_,?_,?_⟩,λx6 w7=>⟨λw8=>?_,λw9=>⟨⟨tv5,?_⟩,λzd iP=>⟨λdW=>?_,λiL=>⟨⟨?_,?_⟩,?_,Sq3,Sq49,ζ,Sq49,Sq50,ζ,[.s 50,.b 1003],Sq51,ζ,Sq9,Sq52,ζ,Sq3,Sq53,ζ,Sq53,Sq54,ζ,[.s 54,.b 1003],Sq55,ζ,Sq9,Sq56,ζ,[.s 55,.s 56],Sq57,ζ,⟨?_,?_⟩,[.s 57,.b 1],Sq58,ζ,?_,Sq58,Sq59,ζ,[.s 51,.s 52],Sq60,ζ,⟨?_,?_⟩,[.s 60,.s 59,.b 1],[.b 1],ζ,?_,⟨?_,?_⟩,?_,[.s 3,.b 1003],Sq68,ζ,[.s 10,.b 1010],Sq69,ζ,[.s 6,.s 68,.b 1006],[.b 1006],ζ,[.s 7,.s 69,.b 1007],[.b 1007],ζ,[],Sq8,ζ,?_⟩⟩⟩⟩⟩,λgY=>⟨λnG=>?_,λkC=>⟨⟨tv5,?_⟩,λx17 qU=>⟨λo9=>?_,λtl=>⟨⟨?_,?_⟩,?_,Sq3,Sq49,ζ,Sq49,Sq50,ζ,[.s 50,.b 1003],Sq51,ζ,Sq9,Sq52,ζ,Sq3,Sq53,ζ,Sq53,Sq54,ζ,[.s 54,.b 1003],Sq55,ζ,Sq9,Sq56,ζ,[.s 55,.s 56],Sq57,ζ,⟨?_,?_⟩,[.s 57,.b 1],Sq58,ζ,?_,Sq58,Sq59,ζ,[.s 51,.s 52],Sq60,ζ,⟨?_,?_⟩,[.s 60,.s 59,.b 1],[.b 1],ζ,?_,⟨?_,?_⟩,?_,[.s 3,.b 1003],Sq68,ζ,[.s 10,.b 1010],Sq69,ζ,[.s 6,.s 68,.b 1006],[.b 1006],ζ,[.s 7,.s 69,.b 1007],[.b 1007],ζ,[],Sq8,ζ,?_⟩⟩⟩⟩⟩⟩,λFW=>⟨λDB=>⟨aa,⟨⟨⟨⟨?_,?_⟩,⟨?_,?_⟩,aa⟩,aa,⟨?_,?_⟩,aa⟩,?_,?_,?_⟩,λx23 tZ=>⟨λFV=>?_,λw26=>⟨⟨tv5,?_⟩,λx27 w28=>⟨λw29=>?_,λw30=>⟨⟨?_,?_⟩,?_,Sq3,Sq49,ζ,Sq49,Sq50,ζ,[.s 50,.b 1003],Sq51,ζ,Sq9,Sq52,ζ,Sq3,Sq53,ζ,Sq53,Sq54,ζ,[.s 54,.b 1003],Sq55,ζ,Sq9,Sq56,ζ,[.s 55,.s 56],Sq57,ζ,⟨?_,?_⟩,[.s 57,.b 1],Sq58,ζ,?_,Sq58,Sq59,ζ,[.s 51,.s 52],Sq60,ζ,⟨?_,?_⟩,[.s 60,.s 59,.b 1],[.b 1],ζ,?_,⟨?_,?_⟩,?_,[.s 3,.b 1003],Sq68,ζ,[.s 10,.b 1010],Sq69,ζ,[.s 6,.s 68,.b 1006],[.b 1006],ζ,[.s 7,.s 69,.b 1007],[.b 1007],ζ,[],Sq8,ζ,?_⟩⟩⟩⟩⟩,λw31=>⟨λw32=>?_,λw33=>⟨⟨tv5,?_⟩,λx34 w35=>⟨λw36=>?_,λw37=>⟨⟨?_,?_⟩,?_,Sq3,Sq49,ζ,Sq49,Sq50,ζ,[.s 50,.b 1003],Sq51,ζ,Sq9,Sq52,ζ,Sq3,Sq53,ζ,Sq53,Sq54,ζ,[.s 54,.b 1003],Sq55,ζ,Sq9,Sq56,ζ,[.s 55,.s 56],Sq57,ζ,⟨?_,?_⟩,[.s 57,.b 1],Sq58,ζ,?_,Sq58,Sq59,ζ,[.s 51,.s 52],Sq60,ζ,⟨?_,?_⟩,[.s 60,.s 59,.b 1],[.b 1],ζ,?_,⟨?_,?_⟩,?_,[.s 3,.b 1003],Sq68,ζ,[.s 10,.b 1010],Sq69,ζ,[.s 6,.s 68,.b 1006],[.b 1006],ζ,[.s 7,.s 69,.b 1007],[.b 1007],ζ,[],Sq8,ζ,?_⟩⟩⟩⟩⟩⟩,λw38=>⟨λw39=>⟨aa,⟨⟨⟨⟨?_,?_⟩,⟨?_,?_⟩,aa⟩,aa,⟨?_,?_⟩,aa⟩,?_,?_,?_⟩,λx40 w41=>⟨λw42=>?_,λw43=>⟨⟨tv5,?_⟩,λx44 w45=>⟨λw46=>?_,λw47=>⟨⟨?_,?_⟩,?_,Sq3,Sq49,ζ,Sq49,Sq50,ζ,[.s 50,.b 1003],Sq51,ζ,Sq9,Sq52,ζ,Sq3,Sq53,ζ,Sq53,Sq54,ζ,[.s 54,.b 1003],Sq55,ζ,Sq9,Sq56,ζ,[.s 55,.s 56],Sq57,ζ,⟨?_,?_⟩,[.s 57,.b 1],Sq58,ζ,?_,Sq58,Sq59,ζ,[.s 51,.s 52],Sq60,ζ,⟨?_,?_⟩,[.s 60,.s 59,.b 1],[.b 1],ζ,?_,⟨?_,?_⟩,?_,[.s 3,.b 1003],Sq68,ζ,[.s 10,.b 1010],Sq69,ζ,[.s 6,.s 68,.b 1006],[.b 1006],ζ,[.s 7,.s 69,.b 1007],[.b 1007],ζ,[],Sq8,ζ,?_⟩⟩⟩⟩⟩,λw48=>⟨λw49=>?_,λw50=>⟨⟨tv5,?_⟩,λx51 w52=>⟨λw53=>?_,λw54=>⟨⟨?_,?_⟩,?_,Sq3,Sq49,ζ,Sq49,Sq50,ζ,[.s 50,.b 1003],Sq51,ζ,Sq9,Sq52,ζ,Sq3,Sq53,ζ,Sq53,Sq54,ζ,[.s 54,.b 1003],Sq55,ζ,Sq9,Sq56,ζ,[.s 55,.s 56],Sq57,ζ,⟨?_,?_⟩,[.s 57,.b 1],Sq58,ζ,?_,Sq58,Sq59,ζ,[.s 51,.s 52],Sq60,ζ,⟨?_,?_⟩,[.s 60,.s 59,.b 1],[.b 1],ζ,?_,⟨?_,?_⟩,?_,[.s 3,.b 1003],Sq68,ζ,[.s 10,.b 1010],Sq69,ζ,[.s 6,.s 68,.b 1006],[.b 1006],ζ,[.s 7,.s 69,.b 1007],[.b 1007],ζ,[],Sq8,ζ,?_⟩⟩⟩⟩⟩⟩
 all_goals first|(exfalso;simp only [decide_eq_true_eq,decide_eq_false_iff_not] at *;omega)|refine aw ?_|refine ax ?_|exact bb|(dsimp only [PU,BI,PX,BN,E9,uw];omega)|exact ba|exact ZH9.1 (aD (by assumption))|(show (text.size:Int)<=1000000000000;omega)|(simp only [dO,k8,decide_eq_true_eq,decide_eq_false_iff_not,ZC6] at *;omega)|skip
 ·have e:=o8 (zg (s:=(aj,ak,an,ao,ah,aq,ai,ar)) (text:=text) w1 w2 w5) w8
  refine⟨[],[],_,_,_,ζ,aC,(),aa,?_,?_,ζ⟩
  ·show _=AV.t [.a (nH 0 1 2 3 4 (bm (aj,ak,an,ao,ah,aq,ai,ar) text level).1),ptA (bm (aj,ak,an,ao,ah,aq,ai,ar) text level).2.1,.s (.q (bm (aj,ak,an,ao,ah,aq,ai,ar) text level).2.2)]
   rw [e];rfl
  ·show _=KF (bm (aj,ak,an,ao,ah,aq,ai,ar) text level).1
   rw [e];rfl
 ·have e:=nU (zg (s:=(aj,ak,an,ao,ah,aq,ai,ar)) (text:=text) w1 w2 w5) w9 dW
  refine⟨[],[],_,_,_,ζ,aC,(),aa,?_,?_,ζ⟩
  ·show _=AV.t [.a (nH 0 1 2 3 4 (bm (aj,ak,an,ao,ah,aq,ai,ar) text level).1),ptA (bm (aj,ak,an,ao,ah,aq,ai,ar) text level).2.1,.s (.q (bm (aj,ak,an,ao,ah,aq,ai,ar) text level).2.2)]
   rw [e];rfl
  ·show _=KF (bm (aj,ak,an,ao,ah,aq,ai,ar) text level).1
   rw [e];rfl
 ·have e:=qB (zg (s:=(aj,ak,an,ao,ah,aq,ai,ar)) (text:=text) w1 w2 w5) w9 iL
  refine⟨[],[],_,_,_,ζ,aC,(),aa,?_,?_,ζ⟩
  ·show _=AV.t [.a (nH 0 1 2 3 4 (bm (aj,ak,an,ao,ah,aq,ai,ar) text level).1),ptA (bm (aj,ak,an,ao,ah,aq,ai,ar) text level).2.1,.s (.q (bm (aj,ak,an,ao,ah,aq,ai,ar) text level).2.2)]
   rw [e]
   exact congrArg (λl=>AV.t [A0.a l,_,_]) (xy (s:=xn (aj,ak,an,ao,ah,aq,ai,ar) text _) ZC6.symm ZC6.symm ZC6.symm rfl rfl rfl rfl rfl)
  ·show _=KF (bm (aj,ak,an,ao,ah,aq,ai,ar) text level).1
   rw [e];rfl
 ·have e:=nU (FT (s:=(aj,ak,an,ao,ah,aq,ai,ar)) (text:=text) w1 w2 gY) kC o9
  refine⟨[],[],_,_,_,ζ,aC,(),aa,?_,?_,ζ⟩
  ·show _=AV.t [.a (nH 0 1 2 3 4 (bm (aj,ak,an,ao,ah,aq,ai,ar) text level).1),ptA (bm (aj,ak,an,ao,ah,aq,ai,ar) text level).2.1,.s (.q (bm (aj,ak,an,ao,ah,aq,ai,ar) text level).2.2)]
   rw [e];rfl
  ·show _=KF (bm (aj,ak,an,ao,ah,aq,ai,ar) text level).1
   rw [e];rfl
 ·have e:=qB (FT (s:=(aj,ak,an,ao,ah,aq,ai,ar)) (text:=text) w1 w2 gY) kC tl
  refine⟨[],[],_,_,_,ζ,aC,(),aa,?_,?_,ζ⟩
  ·show _=AV.t [.a (nH 0 1 2 3 4 (bm (aj,ak,an,ao,ah,aq,ai,ar) text level).1),ptA (bm (aj,ak,an,ao,ah,aq,ai,ar) text level).2.1,.s (.q (bm (aj,ak,an,ao,ah,aq,ai,ar) text level).2.2)]
   rw [e]
   exact congrArg (λl=>AV.t [A0.a l,_,_]) (xy (s:=xn (aj,ak,an,ao,ah,aq,ai,ar) text _) ZC6.symm ZC6.symm ZC6.symm rfl rfl rfl rfl rfl)
  ·show _=KF (bm (aj,ak,an,ao,ah,aq,ai,ar) text level).1
   rw [e];rfl
 ·have e:=o8 (zf (s:=(aj,ak,an,ao,ah,aq,ai,ar)) (text:=text) FW) FV
  refine⟨[],[],_,_,_,ζ,aC,(),aa,?_,?_,ζ⟩
  ·show _=AV.t [.a (nH 0 1 2 3 4 (bm (aj,ak,an,ao,ah,aq,ai,ar) text level).1),ptA (bm (aj,ak,an,ao,ah,aq,ai,ar) text level).2.1,.s (.q (bm (aj,ak,an,ao,ah,aq,ai,ar) text level).2.2)]
   rw [e];rfl
  ·show _=KF (bm (aj,ak,an,ao,ah,aq,ai,ar) text level).1
   rw [e];rfl
 ·have e:=nU (zf (s:=(aj,ak,an,ao,ah,aq,ai,ar)) (text:=text) FW) w26 w29
  refine⟨[],[],_,_,_,ζ,aC,(),aa,?_,?_,ζ⟩
  ·show _=AV.t [.a (nH 0 1 2 3 4 (bm (aj,ak,an,ao,ah,aq,ai,ar) text level).1),ptA (bm (aj,ak,an,ao,ah,aq,ai,ar) text level).2.1,.s (.q (bm (aj,ak,an,ao,ah,aq,ai,ar) text level).2.2)]
   rw [e];rfl
  ·show _=KF (bm (aj,ak,an,ao,ah,aq,ai,ar) text level).1
   rw [e];rfl
 ·have e:=qB (zf (s:=(aj,ak,an,ao,ah,aq,ai,ar)) (text:=text) FW) w26 w30
  refine⟨[],[],_,_,_,ζ,aC,(),aa,?_,?_,ζ⟩
  ·show _=AV.t [.a (nH 0 1 2 3 4 (bm (aj,ak,an,ao,ah,aq,ai,ar) text level).1),ptA (bm (aj,ak,an,ao,ah,aq,ai,ar) text level).2.1,.s (.q (bm (aj,ak,an,ao,ah,aq,ai,ar) text level).2.2)]
   rw [e]
   exact congrArg (λl=>AV.t [A0.a l,_,_]) (xy (s:=xn (aj,ak,an,ao,ah,aq,ai,ar) text _) ZC6.symm ZC6.symm ZC6.symm rfl rfl rfl rfl rfl)
  ·show _=KF (bm (aj,ak,an,ao,ah,aq,ai,ar) text level).1
   rw [e];rfl
 ·have e:=o8 (ze (s:=(aj,ak,an,ao,ah,aq,ai,ar)) (text:=text) (level:=level) w38) w42
  refine⟨[],[],_,_,_,ζ,aC,(),aa,?_,?_,ζ⟩
  ·show _=AV.t [.a (nH 0 1 2 3 4 (bm (aj,ak,an,ao,ah,aq,ai,ar) text level).1),ptA (bm (aj,ak,an,ao,ah,aq,ai,ar) text level).2.1,.s (.q (bm (aj,ak,an,ao,ah,aq,ai,ar) text level).2.2)]
   rw [e];rfl
  ·show _=KF (bm (aj,ak,an,ao,ah,aq,ai,ar) text level).1
   rw [e];rfl
 ·have e:=nU (ze (s:=(aj,ak,an,ao,ah,aq,ai,ar)) (text:=text) (level:=level) w38) w43 w46
  refine⟨[],[],_,_,_,ζ,aC,(),aa,?_,?_,ζ⟩
  ·show _=AV.t [.a (nH 0 1 2 3 4 (bm (aj,ak,an,ao,ah,aq,ai,ar) text level).1),ptA (bm (aj,ak,an,ao,ah,aq,ai,ar) text level).2.1,.s (.q (bm (aj,ak,an,ao,ah,aq,ai,ar) text level).2.2)]
   rw [e];rfl
  ·show _=KF (bm (aj,ak,an,ao,ah,aq,ai,ar) text level).1
   rw [e];rfl
 ·have e:=qB (ze (s:=(aj,ak,an,ao,ah,aq,ai,ar)) (text:=text) (level:=level) w38) w43 w47
  refine⟨[],[],_,_,_,ζ,aC,(),aa,?_,?_,ζ⟩
  ·show _=AV.t [.a (nH 0 1 2 3 4 (bm (aj,ak,an,ao,ah,aq,ai,ar) text level).1),ptA (bm (aj,ak,an,ao,ah,aq,ai,ar) text level).2.1,.s (.q (bm (aj,ak,an,ao,ah,aq,ai,ar) text level).2.2)]
   rw [e]
   exact congrArg (λl=>AV.t [A0.a l,_,_]) (xy (s:=xn (aj,ak,an,ao,ah,aq,ai,ar) text _) ZC6.symm ZC6.symm ZC6.symm rfl rfl rfl rfl rfl)
  ·show _=KF (bm (aj,ak,an,ao,ah,aq,ai,ar) text level).1
   rw [e];rfl
end GL
namespace GL
def iO {b sz n m:Nat}(h:n=m):some (AV.s (.xs b sz 0 n))=some (AV.s (.xs b sz 0 m)):=by rw [h]
def sJ {b sz:Nat}{α:Type}{l:List α}{x:α}:some (AV.s (.xs b sz 0 (l.length+1)))=some (AV.s (.xs b sz 0 (l++[x]).length)):=by rw [ZA0];rfl
def bY {P:Prop}(h:P:=by repeat' (first|exact trivial|rfl|exact rfl|exact iO List.length_append.symm|exact sJ|apply And.intro)):P:=h
def dP {P:Prop}(h:P:=by repeat' (first|exact trivial|rfl|exact rfl|exact iO (Nat.zero_add _)|apply And.intro)):P:=h
def bJ {ek:EK}{l:List (EK.Ty ek)}{i:Nat}(h:i<l.length):l.drop i=nth ek l i::l.drop (i+1):=by
 rw [ZH1 h]
 congr 1
 have:=qe h
 rw [ZB2 h] at this
 exact ZF4 this
def IE (s:ByteArray) (k:Nat):Bool:=decide ((k:Int)<s.size)&&(decide ((k:Int)<9)&&(decide (bX s k>=48)&&decide (bX s k<=57)))
def jH (s:ByteArray):Nat->Int
 |0=>0
 |k+1=>10*jH s k+(bX s k-48)
def uI:Nat->ByteArray->Nat->Nat
 |0,_,k=>k
 |f+1,s,k=>bif IE s k then uI f s (k+1) else k
def dC (s:ByteArray):Nat:=uI 9 s 0
def D9 (s:ByteArray):Int×Int:=bif decide ((dC s:Int)>1)&&decide (bX s 0=48) then (0,1) else (jH s (dC s),dC s)
def aaj {s:ByteArray}{k:Nat}(hk:k<=9) (hd:IE s k=false) (hl:uI (9-k) s k=dC s):dC s=k:=by
 rw [<-hl]
 by_cases h:k=9
 ·subst h;rfl
 ·rw [show 9-k=(8-k)+1 by omega,uI,hd];rfl
def ZY {s:ByteArray}{k:Nat}(h1:jH s k<(10:Int) ^ k) (hk:k<=8):jH s k<=99999999:=by
 have:(10:Int) ^ k<=10 ^ 8:=by exact_mod_cast Nat.pow_le_pow_right (by omega) hk
 omega
def aoN {s:ByteArray}{k:Nat}(e:dC s=k) (h1:decide ((k:Int)>1)=true) (h2:decide (bX s 0=48)=true):D9 s=(0,1):=by
 unfold D9;rw [e,h1,h2];rfl
def amq {s:ByteArray}{k:Nat}(e:dC s=k) (h1:decide ((k:Int)>1)=false):D9 s=(jH s k,(k:Int)):=by
 unfold D9;rw [e,h1];rfl
def amp {s:ByteArray}{k:Nat}(e:dC s=k) (h2:decide (bX s 0=48)=false):D9 s=(jH s k,(k:Int)):=by
 unfold D9;rw [e,h2,ZD7];rfl
def amG {s:ByteArray}{k:Nat}(h:decide ((k:Int)<s.size)=false):IE s k=false:=by unfold IE;rw [h];rfl
def apD {s:ByteArray}{k:Nat}(h:decide ((k:Int)<9)=false):IE s k=false:=by unfold IE;rw [h,Bool.false_and,ZD7]
def apC {s:ByteArray}{k:Nat}(h:decide (bX s ((k:Int).toNat)>=48)=false):IE s k=false:=by
 have h:decide (bX s k>=48)=false:=h
 unfold IE;rw [h,Bool.false_and,ZD7,ZD7]
def apB {s:ByteArray}{k:Nat}(h:decide (bX s ((k:Int).toNat)<=57)=false):IE s k=false:=by
 have h:decide (bX s k<=57)=false:=h
 unfold IE;rw [h,ZD7,ZD7,ZD7]
def mx (s:ByteArray):Prop:=(s.size:Int)<=1000000000000
def GC (s:ByteArray):AV:=.t [.s (.int (D9 s).1),.s (.int (D9 s).2)]
def aia (s:ByteArray):List AV:=[]
def wC:cu where
 A:=[.s .str]
 B:=[]
 pre:=λx b=>mx x
 r:=λx b _=>GC x
 o:=λx b _=>aia x
def V0:Has Tryz.prog 108 wC:=by
 refine Has.fP zT zF zF (l:=[]) trivial Tryz.func108 ?_
 rintro (s:ByteArray) _ (hp:mx s)
 show vc _ _ _ _ (entry [.str s] []) _
 unfold mx at hp
 refine df (l:=[]) (ex:=zT) (wr:=zF) (pt:=zF) trivial [.s 0] (λk:Nat=>[(.s 4,.int (jH s k)),(.s 5,.int k)]) (λk=>k<=9/\k<=s.size/\(0<=jH s k/\jH s k<(10:Int) ^ k)/\uI (9-k) s k=dC s) (λk=>9-k) 0 [] ⟨by omega,ZA7 _,⟨ZC1 _,by show (0:Int)<1;omega⟩,rfl⟩ ⟨⟨rfl,rfl,trivial⟩,⟨rfl,trivial⟩⟩ ?_
 rintro k ⟨hk,hks,⟨hn0,hn1⟩,hl⟩
 have hb:=zZ s k
 have hsm:=ZY hn1
 refine⟨aa,λw1=>⟨aa,λw2=>⟨⟨?_,?_⟩,aa,λw3=>⟨⟨?_,?_⟩,λw4=>⟨⟨?_,?_⟩,⟨?_,?_⟩,⟨?_,?_⟩,⟨?_,?_⟩,⟨?_,?_⟩,⟨?_,?_⟩,?_⟩,λw5=>⟨aa,λw6=>⟨⟨?_,?_⟩,λw7=>?_,λw8=>?_⟩,λw9=>?_⟩⟩,λdB=>⟨aa,λiP=>⟨⟨?_,?_⟩,λdW=>?_,λiL=>?_⟩,λgY=>?_⟩⟩,λnG=>⟨aa,λkC=>⟨⟨?_,?_⟩,λxh=>?_,λqU=>?_⟩,λo9=>?_⟩⟩,λtl=>⟨aa,λFW=>⟨⟨?_,?_⟩,λDB=>?_,λzi=>?_⟩,λtZ=>?_⟩⟩
 all_goals first|refine aw ?_|refine ax ?_|exact bb|exact ba|skip
 ·have h4:IE s k=true:=by unfold IE;rw [w1,w2,show decide (bX s k>=48)=true from w3,show decide (bX s k<=57)=true from w4];rfl
  have h2:=aF w2
  have h5:bX s k>=48:=aF w3
  have h6:bX s k<=57:=aF w4
  refine⟨(k+1),[],?_,?_,?_⟩
  rotate_right
  ·exact bY
  ·refine⟨by omega,by have:=aF w1;omega,⟨?_,?_⟩,?_⟩
   ·show 0<=10*jH s k+(bX s k-48);omega
   ·show 10*jH s k+(bX s k-48)<_;rw [Int.pow_succ];omega
   ·rw [<-hl,show 9-k=(9-(k+1))+1 by omega,uI,h4];rfl
  ·show 9-(k+1)<9-k;omega
 all_goals
  have e:dC s=k:=aaj hk (by first|exact amG (by assumption)|exact apD (by assumption)|exact apC (by assumption)|exact apB (by assumption)) hl
  refine⟨[],[],_,_,_,ζ,aC,(),aa,?_,?_,ζ⟩
  ·(show _=GC s);unfold GC;first|(rw [amq e (by assumption)];rfl)|(rw [aoN e (by assumption) (by assumption)];rfl)|(rw [amp e (by assumption)];rfl)|rfl
  ·rfl
def aA (s:ByteArray):Int×Bool:=bif decide ((D9 s).2=0)||decide ((D9 s).2≠(s.size:Int)) then (0,false) else ((D9 s).1,true)
def iH (s:ByteArray):Prop:=(s.size:Int)<=1000000000000
def BE (s:ByteArray):AV:=.t [.s (.int (aA s).1),.s (.q (aA s).2)]
def agc (s:ByteArray):List AV:=[]
def ku:cu where
 A:=[.s .str]
 B:=[]
 pre:=λx b=>iH x
 r:=λx b _=>BE x
 o:=λx b _=>agc x
def yt:Has Tryz.prog 66 ku:=by
 refine Has.fP zT zF zF (l:=[(108,wC)]) ⟨V0,aa⟩ Tryz.func66 ?_
 rintro (s:ByteArray) _ (hp:iH s)
 show vc _ _ _ _ (entry [.str s] []) _
 unfold iH at hp
 refine⟨⟨tv2,?_⟩,λx1 w2=>⟨aa,λw3=>?_,λw4=>⟨λw5=>?_,λw6=>?_⟩⟩⟩
 all_goals first|refine aw ?_|refine ax ?_|exact bb|(dsimp only [wC,mx];omega)|exact ba|skip
 all_goals
  refine⟨[],[],_,_,_,ζ,aC,(),aa,?_,?_,ζ⟩
  ·(show _=BE s);unfold BE;first|((simp only [aA, *];rfl))|rfl
  ·rfl
def jT (s:ByteArray) (c:Int):Nat->List ByteArray×Nat
 |0=>([],0)
 |k+1=>bif decide (bX s k=c) then ((jT s c k).1++[s.extract (jT s c k).2 k],k+1) else jT s c k
def bz (s:ByteArray) (c:Int):List ByteArray:=(jT s c s.size).1++[s.extract (jT s c s.size).2 s.size]
def PL (s:ByteArray) (c:Int):∀k,(jT s c k).1.length<=k/\(jT s c k).2<=k
 |0=>⟨ZB0 _,ZB0 _⟩
 |k+1=>by
  have:=PL s c k
  unfold jT
  cases decide (bX s k=c) with
  |true=>simp only [cond_true,ZA0,ZA1,ZA4];omega
  |false=>simp only [cond_false];omega
def wz (s:ByteArray) (c:Int):1<=(bz s c).length/\(bz s c).length<=s.size+1:=by
 have:=PL s c s.size
 simp only [bz,ZA0,ZA1,ZA4]
 omega
def PK {s:ByteArray}{c:Int}:∀{k:Nat},∀x∈(jT s c k).1,x.size<=s.size
 |0,x,h=>by cases h
 |k+1,x,h=>by
  unfold jT at h
  cases hd:decide (bX s k=c) with
  |true=>
   rw [hd,cond_true,ZB5] at h
   rcases h with h |h
   ·exact PK x h
   ·simp only [ZB7,ZF6,or_false] at h
    subst h
    rw [ZC2];omega
  |false=>rw [hd,cond_false] at h;exact PK x h
def th {s:ByteArray}{c:Int}:∀x∈bz s c,x.size<=s.size:=by
 intro x h
 rw [bz,ZB5] at h
 rcases h with h |h
 ·exact PK x h
 ·simp only [ZB7,ZF6,or_false] at h
  subst h
  rw [ZC2];omega
def jL (s:ByteArray) (c:Int):Prop:=s.size<=1000000
def GB (s:ByteArray) (c:Int):AV:=.s (.xs 0 1 0 (bz s c).length)
def M3 (s:ByteArray) (c:Int):List AV:=[.rs ab (bz s c)]
def jx:cu where
 A:=[.s .str,.s .byte]
 B:=[]
 pre:=λx b=>jL (x.1) (x.2)
 r:=λx b _=>GB (x.1) (x.2)
 o:=λx b _=>M3 (x.1) (x.2)
 nf:=1
def wc:Has Tryz.prog 109 jx:=by
 refine Has.fP zT zF zF (l:=[]) trivial Tryz.func109 ?_
 rintro⟨(s:ByteArray),(c:Int)⟩ _ (hp:jL s c)
 show vc _ _ _ _ (entry [.str s,.byte c] []) _
 unfold jL at hp
 refine⟨aa,?_⟩
 all_goals first|refine aw ?_|refine ax ?_|exact bb|exact ba|skip
 refine df (l:=[]) (ex:=zT) (wr:=zF) (pt:=zF) trivial [.s 0,.s 1] (λy:Nat×List ByteArray×Nat=>[(.s 5,.s (.xs 1008 1 0 y.2.1.length)),(.s 6,.int y.2.2),(.s 7,.int y.1),(.b 1008,.rs ab y.2.1)]) (λy=>y.1<=s.size/\jT s c y.1=y.2) (λy=>s.size-y.1) (0,[],0) [] ⟨ZA7 _,rfl⟩ dP ?_
 rintro⟨k,out,fr⟩ ⟨(hk:k<=s.size),(he:jT s c k=(out,fr))⟩
 have hbd:=PL s c k
 rw [he] at hbd
 obtain⟨(hb1:out.length<=k),(hb2:fr<=k)⟩:=hbd
 refine⟨λw1=>⟨⟨?_,?_⟩,λw2=>⟨⟨?_,?_,?_⟩,aa,⟨⟨?_,?_⟩,?_,?_⟩,⟨?_,?_⟩,⟨?_,?_⟩,?_⟩,λw3=>⟨⟨?_,?_⟩,?_⟩⟩,λw4=>⟨⟨?_,?_,?_⟩,aa,⟨⟨?_,?_⟩,?_,?_⟩,?_⟩⟩
 all_goals first|refine aw ?_|refine ax ?_|exact bb|exact ba|skip
 ·have e:jT s c (k+1)=(out++[s.extract fr k],k+1):=by
   rw [jT,show decide (bX s k=c)=true by assumption,he];rfl
  refine⟨(k+1,out++[s.extract fr k],k+1),[(1008,1026)],?_,?_,?_⟩
  rotate_right
  ·exact bY
  ·exact⟨by have:=aF (p:=(k:Int)<s.size) (by assumption);omega,e⟩
  ·show s.size-(k+1)<s.size-k
   have:=aF (p:=(k:Int)<s.size) (by assumption);omega
 ·have e:jT s c (k+1)=(out,fr):=by
   rw [jT,show decide (bX s k=c)=false by assumption,he];rfl
  refine⟨(k+1,out,fr),[],?_,?_,?_⟩
  rotate_right
  ·exact bY
  ·exact⟨by have:=aF (p:=(k:Int)<s.size) (by assumption);omega,e⟩
  ·show s.size-(k+1)<s.size-k
   have:=aF (p:=(k:Int)<s.size) (by assumption);omega
 ·have hk':k=s.size:=by have:=aD (p:=(k:Int)<s.size) (by assumption);omega
  subst hk'
  have e:bz s c=out++[s.extract fr s.size]:=by rw [bz,he]
  refine⟨[1034],[],_,_,_,ζ,aC,(),aa,?_,?_,ζ⟩
  ·(show _=GB s c);unfold GB;first|(rw [e,ZA0];rfl)|(rw [e];rfl)|rfl
  ·(show _=M3 s c);unfold M3;first|(rw [e,ZA0];rfl)|(rw [e];rfl)|rfl
end GL
namespace GL
def mz:List ByteArray->List Int->Option (List Int)
 |[],acc=>some acc
 |t::l,acc=>bif (aA t).2 then mz l (acc++[(aA t).1]) else none
def mX (n:List Int):Pt:=(nth ag n 0,nth ag n 1,nth ag n 2,nth ag n 3,nth ag n 4)
def ru (n:List Int):Pt×Bool:=bif !(bc (mX n))||au (mX n) then (ch,false) else (mX n,true)
def sO (w:List ByteArray):Pt×Bool:=
 match mz w [] with
 |none=>(ch,false)
 |some n=>ru n
def bC (s:ByteArray):Pt×Bool:=
 bif decide (s=⟨#[45]⟩) then (ch,true) else
 bif decide (((bz s 46).length:Int)≠5) then (ch,false) else sO (bz s 46)
def zr {s:ByteArray}(h:decide (s=⟨#[45]⟩)=true):bC s=(ch,true):=by unfold bC;rw [h];rfl
def G0 {s:ByteArray}(h:decide (s=⟨#[45]⟩)=false) (h2:decide (((bz s 46).length:Int)≠5)=true):bC s=(ch,false):=by unfold bC;rw [h,h2];rfl
def uo {s:ByteArray}(h:decide (s=⟨#[45]⟩)=false) (h2:decide (((bz s 46).length:Int)≠5)=false):bC s=sO (bz s 46):=by unfold bC;rw [h,h2];rfl
def GZ {w:List ByteArray}(h:mz w []=none):sO w=(ch,false):=by unfold sO;rw [h]
def GY {w:List ByteArray}{n:List Int}(h:mz w []=some n):sO w=ru n:=by unfold sO;rw [h]
def Y3 {n:List Int}(h:(!(bc (mX n)))=true):ru n=(ch,false):=by unfold ru;rw [h];rfl
def Y2 {n:List Int}(h:au (mX n)=true):ru n=(ch,false):=by unfold ru;rw [h,ZC7];rfl
def MR {n:List Int}(h:(!(bc (mX n)))=false) (h2:au (mX n)=false):ru n=(mX n,true):=by unfold ru;rw [h,h2];rfl
def oo (s:ByteArray):Prop:=s.size<=1000000
def fv (s:ByteArray):AV:=.t [ptA (bC s).1,.s (.q (bC s).2)]
def aga (s:ByteArray):List AV:=[]
def sq:cu where
 A:=[.s .str]
 B:=[]
 pre:=λx b=>oo x
 r:=λx b _=>fv x
 o:=λx b _=>aga x
def ON:Has Tryz.prog 67 sq:=by
 refine Has.fP zT zF zF (l:=[(66,ku),(109,jx),(61,dD),(62,cN)]) ⟨yt,wc,js,cQ,aa⟩ Tryz.func67 ?_
 rintro (s:ByteArray) _ (hp:oo s)
 show vc _ _ _ _ (entry [.str s] []) _
 unfold oo at hp
 have aaI:=wz s 46
 refine⟨λw1=>?_,λw2=>⟨⟨tv3,?_⟩,λx3 w4=>⟨λw5=>?_,λw6=>⟨aa,?_⟩⟩⟩⟩
 all_goals first|refine aw ?_|refine ax ?_|exact bb|(dsimp only [ku,iH,jx,jL,dD,eO];omega)|exact ba|skip
 ·refine⟨[],[],_,_,_,ζ,aC,(),aa,?_,?_,ζ⟩
  ·(show _=fv s);unfold fv;first|(rw [zr (by assumption)];rfl)|rfl
  ·rfl
 ·refine⟨[],[],_,_,_,ζ,aC,(),aa,?_,?_,ζ⟩
  ·(show _=fv s);unfold fv;first|(rw [G0 (by assumption) (by assumption)];rfl)|rfl
  ·rfl
 ·have h5:(bz s 46).length=5:=by have:=aD (p:=((bz s 46).length:Int)≠5) (by assumption);omega
  have hM:=uo (s:=s) (by assumption) (by assumption)
  refine df (l:=[(66,ku),(109,jx),(61,dD),(62,cN)]) (ex:=zT) (wr:=zF) (pt:=zF) ⟨yt,wc,js,cQ,aa⟩ [.s 0,.s 2,.s 4,.b 1002,.b 150000] (λy:Nat×List Int=>[(.s 5,.s (.xs 1019 1 0 y.2.length)),(.s 6,.int y.1),(.b 1019,.rs ag y.2)]) (λy=>y.1<=5/\y.2.length=y.1/\mz ((bz s 46).drop y.1) y.2=mz (bz s 46) []) (λy=>5-y.1) (0,[]) [] ⟨ZA7 _,rfl,rfl⟩ dP ?_
  rintro⟨i,n⟩ ⟨(hi:i<=5),(hl:n.length=i),(hr:mz ((bz s 46).drop i) n=mz (bz s 46) [])⟩
  have db:i<5->(nth ab (bz s 46) i).size<=1000000:=λh=>ZA9 (th (s:=s) (c:=46) _ (bS (ek:=ab) (by omega))) hp
  have cP:i<5->(bz s 46).drop i=nth ab (bz s 46) i::(bz s 46).drop (i+1):=λh=>bJ (ek:=ab) (by omega)
  refine⟨λw1=>⟨⟨?_,?_⟩,?_,⟨tv2,?_⟩,λx2 w3=>⟨λw4=>?_,λw5=>⟨aa,⟨⟨?_,?_⟩,?_,?_⟩,⟨?_,?_⟩,?_⟩⟩⟩,λw6=>⟨Sq5,Sq39,ζ,Sq39,Sq40,ζ,⟨?_,?_⟩,[.s 40,.b 1019],Sq41,ζ,?_,Sq5,Sq42,ζ,Sq42,Sq43,ζ,⟨?_,?_⟩,[.s 43,.b 1019],Sq44,ζ,?_,Sq5,Sq45,ζ,Sq45,Sq46,ζ,⟨?_,?_⟩,[.s 46,.b 1019],Sq47,ζ,?_,Sq5,Sq48,ζ,Sq48,Sq49,ζ,⟨?_,?_⟩,[.s 49,.b 1019],Sq50,ζ,?_,Sq5,Sq51,ζ,Sq51,Sq52,ζ,⟨?_,?_⟩,[.s 52,.b 1019],Sq53,ζ,?_,[.s 41,.s 44,.s 47,.s 50,.s 53],Sq54,ζ,[.b 1009],[.s 9,.b 1009],ζ,[.s 9,.s 54,.b 1009],[.b 1009],ζ,⟨⟨tv6,aa⟩,aa⟩,λx7 w8=>⟨aa,λw9=>?_,λdB=>⟨⟨⟨tv6,aa⟩,aa⟩,λlJ dW=>⟨λiL=>?_,λgY=>?_⟩⟩⟩⟩⟩
  all_goals first|refine aw ?_|refine ax ?_|exact bb|(dsimp only [ku,iH,jx,jL,dD,eO];omega)|exact ba|(have:=db (by have:=aF (p:=(i:Int)<5) (by assumption);omega);show ((nth ab (bz s 46) i).size:Int)<=1000000000000;omega)|skip
  ·have bR:i<5:=by have:=aF (p:=(i:Int)<5) (by assumption);omega
   have e:mz (bz s 46) []=none:=by rw [<-hr,cP bR,mz,show (aA (nth ab (bz s 46) i)).2=false from pJ (by assumption)];rfl
   refine⟨[],[],_,_,_,ζ,aC,(),aa,?_,?_,ζ⟩
   ·(show _=fv s);unfold fv;first|(rw [hM,GZ e];rfl)|rfl
   ·rfl
  ·have bR:i<5:=by have:=aF (p:=(i:Int)<5) (by assumption);omega
   refine⟨(i+1,n++[(aA (nth ab (bz s 46) i)).1]),[(1019,1038)],?_,?_,?_⟩
   rotate_right
   ·exact bY
   ·refine⟨bR,by show List.length (_++_)=_;rw [ZA0,hl];rfl,?_⟩
    rw [<-hr,cP bR,mz,show (aA (nth ab (bz s 46) i)).2=true from cr (by assumption)];rfl
   ·show 5-(i+1)<5-i;omega
  all_goals
   have hi5:i=5:=by have:=aD (p:=(i:Int)<5) (by assumption);omega
   have e:mz (bz s 46) []=some n:=by rw [<-hr,ZB3 (by omega)];rfl
   rw [GY e] at hM
  ·rw [Y3 (by assumption)] at hM
   refine⟨[],[],_,_,_,ζ,aC,(),aa,?_,?_,ζ⟩
   ·(show _=fv s);unfold fv;first|(rw [hM];rfl)|rfl
   ·rfl
  ·rw [Y2 (by assumption)] at hM
   refine⟨[],[],_,_,_,ζ,aC,(),aa,?_,?_,ζ⟩
   ·(show _=fv s);unfold fv;first|(rw [hM];rfl)|rfl
   ·rfl
  ·rw [MR (by assumption) (by assumption)] at hM
   refine⟨[],[],_,_,_,ζ,aC,(),aa,?_,?_,ζ⟩
   ·(show _=fv s);unfold fv;first|(rw [hM];rfl)|rfl
   ·rfl
end GL
namespace GL
def pS:List ByteArray->List Pt->Bool->Option (List Pt×Bool)
 |[],out,sm=>some (out,sm)
 |t::l,out,sm=>bif (bC t).2 then pS l (out++[(bC t).1]) (sm|| !(au (bC t).1)) else none
def nA (o:List Pt) (sm:Bool):List Pt×Bool:=bif decide ((o.length:Int)≠4)|| !sm then ([],false) else (o,true)
def bw (s:ByteArray):List Pt×Bool:=
 match pS (bz s 44) [] false with
 |none=>([],false)
 |some (o,sm)=>nA o sm
def zV {s:ByteArray}(h:pS (bz s 44) [] false=none):bw s=([],false):=by unfold bw;rw [h]
def kQ {s:ByteArray}{o:List Pt}{sm:Bool}(h:pS (bz s 44) [] false=some (o,sm)):bw s=nA o sm:=by unfold bw;rw [h]
def EW {o:List Pt}{sm:Bool}(h:decide ((o.length:Int)≠4)=true):nA o sm=([],false):=by unfold nA;rw [h];rfl
def EV {o:List Pt}{sm:Bool}(h:(!sm)=true):nA o sm=([],false):=by unfold nA;rw [h,ZC7];rfl
def yH {o:List Pt}{sm:Bool}(h:decide ((o.length:Int)≠4)=false) (h2:(!sm)=false):nA o sm=(o,true):=by unfold nA;rw [h,h2];rfl
def ajT {t:ByteArray}{l:List ByteArray}{out:List Pt}{sm:Bool}(h:(!(bC t).2)=false):pS (t::l) out sm=pS l (out++[(bC t).1]) (sm|| !(au (bC t).1)):=by rw [pS,cr h];rfl
def anQ {t:ByteArray}{l:List ByteArray}{out:List Pt}{sm:Bool}(h:(!(bC t).2)=true):pS (t::l) out sm=none:=by rw [pS,pJ h];rfl
def rL (s:ByteArray):Prop:=s.size<=1000000
def ji (s:ByteArray):AV:=.t [.s (.xs 0 5 0 (bw s).1.length),.s (.q (bw s).2)]
def kM (s:ByteArray):List AV:=[.rs ae (bw s).1]
def yW:cu where
 A:=[.s .str]
 B:=[]
 pre:=λx b=>rL x
 r:=λx b _=>ji x
 o:=λx b _=>kM x
 nf:=1
def aaz:Has Tryz.prog 107 yW:=by
 refine Has.fP zT zF zF (l:=[(109,jx),(67,sq),(62,cN)]) ⟨wc,ON,cQ,aa⟩ Tryz.func107 ?_
 rintro (s:ByteArray) _ (hp:rL s)
 show vc _ _ _ _ (entry [.str s] []) _
 unfold rL at hp
 have aaI:=wz s 44
 refine⟨⟨tv3,?_⟩,λx1 w2=>⟨aa,?_⟩⟩
 all_goals first|refine aw ?_|refine ax ?_|exact bb|(dsimp only [jx,jL,sq,oo];omega)|exact ba|skip
 refine df (l:=[(109,jx),(67,sq),(62,cN)]) (ex:=zT) (wr:=zF) (pt:=zF) ⟨wc,ON,cQ,aa⟩ [.s 0,.s 4,.b 120000] (λy:Nat×List Pt×Bool=>[(.s 5,.s (.xs 1012 5 0 y.2.1.length)),(.s 6,.s (.q y.2.2)),(.s 7,.int y.1),(.b 1012,.rs ae y.2.1)]) (λy=>y.1<=(bz s 44).length/\y.2.1.length=y.1/\pS ((bz s 44).drop y.1) y.2.1 y.2.2=pS (bz s 44) [] false) (λy=>(bz s 44).length-y.1) (0,[],false) [] ⟨ZA7 _,rfl,rfl⟩ dP ?_
 rintro⟨i,out,sm⟩ ⟨(hi:i<=(bz s 44).length),(hl:out.length=i),(hr:pS ((bz s 44).drop i) out sm=pS (bz s 44) [] false)⟩
 have db:i<(bz s 44).length->(nth ab (bz s 44) i).size<=1000000:=λh=>ZA9 (th (s:=s) (c:=44) _ (bS (ek:=ab) h)) hp
 have cP:i<(bz s 44).length->(bz s 44).drop i=nth ab (bz s 44) i::(bz s 44).drop (i+1):=λh=>bJ (ek:=ab) h
 have cF:decide ((i:Int)<((bz s 44).length:Int))=true->i<(bz s 44).length:=λh=>by have:=aF h;omega
 have lZ:decide ((i:Int)<((bz s 44).length:Int))=false->pS (bz s 44) [] false=some (out,sm):=λh=>by
  have:=aD h
  rw [<-hr,ZB3 (by omega)];rfl
 refine⟨λw1=>⟨⟨?_,?_⟩,?_,⟨tv2,?_⟩,λx2 w3=>⟨λw4=>⟨aa,?_⟩,λw5=>⟨aa,λw6=>⟨aa,⟨⟨?_,?_⟩,?_,?_⟩,⟨?_,?_⟩,?_⟩,λw7=>⟨⟨⟨tv6,aa⟩,aa⟩,λx8 w9=>⟨aa,⟨⟨?_,?_⟩,?_,?_⟩,⟨?_,?_⟩,?_⟩⟩⟩⟩⟩,λdB=>⟨aa,λiP=>⟨aa,?_⟩,λdW=>⟨λiL=>⟨aa,?_⟩,λgY=>?_⟩⟩⟩
 all_goals first|refine aw ?_|refine ax ?_|exact bb|(dsimp only [jx,jL,sq,oo];omega)|exact ba|(exact db (cF (by assumption)))|skip
 ·have e:pS (bz s 44) [] false=none:=by rw [<-hr,cP (cF (by assumption)),anQ (by assumption)]
  refine⟨[1029],[],_,_,_,ζ,aC,(),aa,?_,?_,ζ⟩
  ·(show _=ji s);unfold ji;first|(rw [zV e];rfl)|rfl
  ·(show _=kM s);unfold kM;first|(rw [zV e];rfl)|rfl
 ·refine⟨(i+1,out++[(bC (nth ab (bz s 44) i)).1],true),[(1012,1039)],?_,?_,?_⟩
  rotate_right
  ·exact bY
  ·have bR:=cF (by assumption)
   refine⟨bR,by show List.length (_++_)=_;rw [ZA0,hl];rfl,?_⟩
   rw [<-hr,cP bR,ajT (by assumption),show sm=true by assumption];rfl
  ·show (bz s 44).length-(i+1)<(bz s 44).length-i;have:=cF (by assumption);omega
 ·refine⟨(i+1,out++[(bC (nth ab (bz s 44) i)).1],!(au (bC (nth ab (bz s 44) i)).1)),[(1012,1039)],?_,?_,?_⟩
  rotate_right
  ·exact bY
  ·have bR:=cF (by assumption)
   refine⟨bR,by show List.length (_++_)=_;rw [ZA0,hl];rfl,?_⟩
   rw [<-hr,cP bR,ajT (by assumption),show sm=false by assumption];rfl
  ·show (bz s 44).length-(i+1)<(bz s 44).length-i;have:=cF (by assumption);omega
 ·refine⟨[1047],[],_,_,_,ζ,aC,(),aa,?_,?_,ζ⟩
  ·(show _=ji s);unfold ji;first|(rw [kQ (lZ (by assumption)),EW (by assumption)];rfl)|rfl
  ·(show _=kM s);unfold kM;first|(rw [kQ (lZ (by assumption)),EW (by assumption)];rfl)|rfl
 ·refine⟨[1047],[],_,_,_,ζ,aC,(),aa,?_,?_,ζ⟩
  ·(show _=ji s);unfold ji;first|(rw [kQ (lZ (by assumption)),EV (by assumption)];rfl)|rfl
  ·(show _=kM s);unfold kM;first|(rw [kQ (lZ (by assumption)),EV (by assumption)];rfl)|rfl
 ·refine⟨[1012],[],_,_,_,ζ,aC,(),aa,?_,?_,ζ⟩
  ·(show _=ji s);unfold ji;first|(rw [kQ (lZ (by assumption)),yH (by assumption) (by assumption)];rfl)|rfl
  ·(show _=kM s);unfold kM;first|(rw [kQ (lZ (by assumption)),yH (by assumption) (by assumption)];rfl)|rfl
def ja:List Pt->Nat->ByteArray->Bool->Option (ByteArray×Bool)
 |[],_,out,sm=>some (out,sm)
 |p::l,i,out,sm=>bif bc p then ja l (i+1) ((bif decide ((i:Int)>0) then out++⟨#[44]⟩ else out)++bj p) (sm|| !(au p)) else none
def tc (o:ByteArray) (sm:Bool):ByteArray×Bool:=bif !sm then (⟨#[]⟩,false) else (o,true)
def tb (l:List Pt):ByteArray×Bool:=
 match ja l 0 ⟨#[]⟩ false with
 |none=>(⟨#[]⟩,false)
 |some (o,sm)=>tc o sm
def bN (l:List Pt):ByteArray×Bool:=bif decide ((l.length:Int)≠4) then (⟨#[]⟩,false) else tb l
def zS {l:List Pt}(h:decide ((l.length:Int)≠4)=true):bN l=(⟨#[]⟩,false):=by unfold bN;rw [h];rfl
def zR {l:List Pt}(h:decide ((l.length:Int)≠4)=false):bN l=tb l:=by unfold bN;rw [h];rfl
def qN {l:List Pt}(h:ja l 0 ⟨#[]⟩ false=none):tb l=(⟨#[]⟩,false):=by unfold tb;rw [h]
def uP {l:List Pt}{o:ByteArray}{sm:Bool}(h:ja l 0 ⟨#[]⟩ false=some (o,sm)):tb l=tc o sm:=by unfold tb;rw [h]
def IB {o:ByteArray}{sm:Bool}(h:(!sm)=true):tc o sm=(⟨#[]⟩,false):=by unfold tc;rw [h];rfl
def zU {o:ByteArray}{sm:Bool}(h:(!sm)=false):tc o sm=(o,true):=by unfold tc;rw [h];rfl
def alK {p:Pt}{l:List Pt}{i:Nat}{out:ByteArray}{sm:Bool}(h:(!(bc p))=true):ja (p::l) i out sm=none:=by rw [ja,pJ h];rfl
def KY {p:Pt}{l:List Pt}{i:Nat}{out:ByteArray}{sm:Bool}(h:(!(bc p))=false):ja (p::l) i out sm=ja l (i+1) ((bif decide ((i:Int)>0) then out++⟨#[44]⟩ else out)++bj p) (sm|| !(au p)):=by rw [ja,cr h];rfl
def XX {a b:ByteArray}(ha:a.size<=1000000) (hb:b.size<=1000000):((a.size+b.size:Nat):Int)<=imax:=by
 unfold imax;omega
def amd (p:Pt):(bj p).size<=1000000:=ZA9 (fH p) (by omega)
def BT (l:List Pt):Prop:=True
def jh (l:List Pt):AV:=.t [.s (.str (bN l).1),.s (.q (bN l).2)]
def agf (l:List Pt):List AV:=[]
def P5:cu where
 A:=[.s (.vz ae)]
 B:=[]
 pre:=λx b=>BT x
 r:=λx b _=>jh x
 o:=λx b _=>agf x
def ajc:Has Tryz.prog 138 P5:=by
 refine Has.fP zT zF zF (l:=[(61,dD),(62,cN),(99,so)]) ⟨js,cQ,OM,aa⟩ Tryz.func138 ?_
 rintro (l:List Pt) _ (hp:BT l)
 show vc _ _ _ _ (entry [.s (.vz ae l)] []) _
 refine⟨λw1=>?_,λw2=>?_⟩
 all_goals first|refine aw ?_|refine ax ?_|exact bb|(dsimp only [dD,eO,so,rI];omega)|exact ba|skip
 ·refine⟨[],[],_,_,_,ζ,aC,(),aa,?_,?_,ζ⟩
  ·(show _=jh l);unfold jh;first|(rw [zS (by assumption)];rfl)|rfl
  ·rfl
 ·have h4:l.length=4:=by have:=aD (p:=(l.length:Int)≠4) (by assumption);omega
  have hM:=zR (l:=l) (by assumption)
  refine df (l:=[(61,dD),(62,cN),(99,so)]) (ex:=zT) (wr:=zF) (pt:=zF) ⟨js,cQ,OM,aa⟩ [.s 0] (λy:Nat×ByteArray×Bool=>[(.s 4,.str y.2.1),(.s 5,.s (.q y.2.2)),(.s 6,.int y.1)]) (λy=>y.1<=4/\y.2.1.size<=65*y.1/\ja (l.drop y.1) y.1 y.2.1 y.2.2=ja l 0 ⟨#[]⟩ false) (λy=>4-y.1) (0,⟨#[]⟩,false) [] ⟨ZA7 _,ZA7 _,rfl⟩ dP ?_
  rintro⟨i,out,sm⟩ ⟨(hi:i<=4),(ho:out.size<=65*i),(hr:ja (l.drop i) i out sm=ja l 0 ⟨#[]⟩ false)⟩
  have cF:decide ((i:Int)<(l.length:Int))=true->i<l.length:=λh=>by have:=aF h;omega
  have cP:i<l.length->l.drop i=nth ae l i::l.drop (i+1):=λh=>bJ (ek:=ae) h
  have db:=fH (nth ae l i)
  have lZ:decide ((i:Int)<(l.length:Int))=false->ja l 0 ⟨#[]⟩ false=some (out,sm):=λh=>by
   have:=aD h
   rw [<-hr,ZB3 (by omega)];rfl
  refine⟨λw1=>⟨⟨?_,?_⟩,⟨⟨tv6,aa⟩,aa⟩,λx2 w3=>⟨λw4=>?_,λw5=>⟨aa,λw6=>⟨λw7=>⟨?_,⟨?_,?_⟩,⟨⟨tv6,aa⟩,aa⟩,λx8 w9=>⟨?_,⟨?_,?_⟩,?_⟩⟩,λdB=>⟨⟨?_,?_⟩,⟨⟨tv6,aa⟩,aa⟩,λlJ dW=>⟨?_,⟨?_,?_⟩,?_⟩⟩⟩,λiL=>⟨⟨?_,?_⟩,⟨⟨tv6,aa⟩,aa⟩,λx14 nG=>⟨λkC=>⟨?_,⟨?_,?_⟩,⟨⟨tv6,aa⟩,aa⟩,λx17 qU=>⟨?_,⟨?_,?_⟩,?_⟩⟩,λo9=>⟨⟨?_,?_⟩,⟨⟨tv6,aa⟩,aa⟩,λx20 FW=>⟨?_,⟨?_,?_⟩,?_⟩⟩⟩⟩⟩⟩⟩,λDB=>⟨λzi=>?_,λtZ=>?_⟩⟩
  all_goals first|refine aw ?_|refine ax ?_|exact bb|(dsimp only [dD,eO,so,rI];omega)|exact ba|(exact XX (show out.size<=1000000 by omega) (by rw [sz1];omega))|(exact XX (show (out++(⟨#[44]⟩:ByteArray)).size<=1000000 by rw [ZB4,sz1];omega) (amd _))|(exact XX (show out.size<=1000000 by omega) (amd _))|skip
  ·have e:ja l 0 ⟨#[]⟩ false=none:=by rw [<-hr,cP (cF (by assumption)),alK (by assumption)]
   refine⟨[],[],_,_,_,ζ,aC,(),aa,?_,?_,ζ⟩
   ·(show _=jh l);unfold jh;first|(rw [hM,qN e];rfl)|rfl
   ·rfl
  ·have bR:=cF (by assumption)
   refine⟨(i+1,out++⟨#[44]⟩++bj (nth ae l i),true),[],?_,?_,?_⟩
   rotate_right
   ·exact bY
   ·refine⟨by show i+1<=4;omega,by simp only [ZB4,sz1];omega,?_⟩
    rw [<-hr,cP bR,KY (by assumption),show decide ((i:Int)>0)=true by assumption,show sm=true by assumption];rfl
   ·show 4-(i+1)<4-i;omega
  ·have bR:=cF (by assumption)
   refine⟨(i+1,out++bj (nth ae l i),true),[],?_,?_,?_⟩
   rotate_right
   ·exact bY
   ·refine⟨by show i+1<=4;omega,by simp only [ZB4,sz1];omega,?_⟩
    rw [<-hr,cP bR,KY (by assumption),show decide ((i:Int)>0)=false by assumption,show sm=true by assumption];rfl
   ·show 4-(i+1)<4-i;omega
  ·have bR:=cF (by assumption)
   refine⟨(i+1,out++⟨#[44]⟩++bj (nth ae l i),!(au (nth ae l i))),[],?_,?_,?_⟩
   rotate_right
   ·exact bY
   ·refine⟨by show i+1<=4;omega,by simp only [ZB4,sz1];omega,?_⟩
    rw [<-hr,cP bR,KY (by assumption),show decide ((i:Int)>0)=true by assumption,show sm=false by assumption];rfl
   ·show 4-(i+1)<4-i;omega
  ·have bR:=cF (by assumption)
   refine⟨(i+1,out++bj (nth ae l i),!(au (nth ae l i))),[],?_,?_,?_⟩
   rotate_right
   ·exact bY
   ·refine⟨by show i+1<=4;omega,by simp only [ZB4,sz1];omega,?_⟩
    rw [<-hr,cP bR,KY (by assumption),show decide ((i:Int)>0)=false by assumption,show sm=false by assumption];rfl
   ·show 4-(i+1)<4-i;omega
  ·refine⟨[],[],_,_,_,ζ,aC,(),aa,?_,?_,ζ⟩
   ·(show _=jh l);unfold jh;first|(rw [hM,uP (lZ (by assumption)),IB (by assumption)];rfl)|rfl
   ·rfl
  ·refine⟨[],[],_,_,_,ζ,aC,(),aa,?_,?_,ζ⟩
   ·(show _=jh l);unfold jh;first|(rw [hM,uP (lZ (by assumption)),zU (by assumption)];rfl)|rfl
   ·rfl
end GL
namespace GL
def dk:List ByteArray->ByteArray->ByteArray×Bool
 |[],out=>(out,true)
 |x::l,out=>bif decide ((x.size:Int)>2048) then (⟨#[]⟩,false) else
  bif decide (((out++bL x.size++⟨#[58]⟩++x).size:Int)>2048) then (⟨#[]⟩,false) else dk l (out++bL x.size++⟨#[58]⟩++x)
def bK (l:List ByteArray):ByteArray×Bool:=bif decide ((l.length:Int)<=60) then dk l ⟨#[]⟩ else (⟨#[]⟩,false)
def eF {l:List ByteArray}(h:decide ((l.length:Int)<=60)=true):bK l=dk l ⟨#[]⟩:=by unfold bK;rw [h];rfl
def qx {l:List ByteArray}(h:decide ((l.length:Int)<=60)=false):bK l=(⟨#[]⟩,false):=by unfold bK;rw [h];rfl
def TB {x:ByteArray}{l:List ByteArray}{out:ByteArray}(h:decide ((x.size:Int)>2048)=true):dk (x::l) out=(⟨#[]⟩,false):=by rw [dk,h];rfl
def IA {x:ByteArray}{l:List ByteArray}{out:ByteArray}(h:decide (((out++bL x.size++⟨#[58]⟩++x).size:Int)>2048)=true):dk (x::l) out=(⟨#[]⟩,false):=by
 rw [dk,h];cases decide ((x.size:Int)>2048)<;>rfl
def H9 {x:ByteArray}{l:List ByteArray}{out:ByteArray}(h:decide ((x.size:Int)>2048)=false) (h2:decide (((out++bL x.size++⟨#[58]⟩++x).size:Int)>2048)=false):dk (x::l) out=dk l (out++bL x.size++⟨#[58]⟩++x):=by rw [dk,h,h2];rfl
def lB (l:List ByteArray):Prop:=True
def fF (l:List ByteArray):AV:=.t [.s (.str (bK l).1),.s (.q (bK l).2)]
def VB (l:List ByteArray):List AV:=[]
def kx:cu where
 A:=[.s (.vz ab)]
 B:=[]
 pre:=λx b=>lB x
 r:=λx b _=>fF x
 o:=λx b _=>VB x
def yu:Has Tryz.prog 97 kx:=by
 refine Has.fP zT zF zF (l:=[(98,kX)]) ⟨zK,aa⟩ Tryz.func97 ?_
 rintro (l:List ByteArray) _ (hp:lB l)
 show vc _ _ _ _ (entry [.s (.vz ab l)] []) _
 refine df (l:=[(98,kX)]) (ex:=zT) (wr:=zF) (pt:=zF) ⟨zK,aa⟩ [.s 0] (λy:Nat×ByteArray=>[(.s 4,.str y.2),(.s 5,.int y.1)]) (λy=>y.1<=l.length/\y.2.size<=2048/\(l.length<=60->dk (l.drop y.1) y.2=dk l ⟨#[]⟩)/\(60<l.length->y.1=0/\y.2=⟨#[]⟩)) (λy=>l.length-y.1) (0,⟨#[]⟩) [] ⟨ZA7 _,ZA7 _,λ_=>rfl,λ_=>⟨rfl,rfl⟩⟩ dP ?_
 rintro⟨i,out⟩ ⟨(hi:i<=l.length),(ho:out.size<=2048),(hr:l.length<=60->dk (l.drop i) out=dk l ⟨#[]⟩),(h0:60<l.length->i=0/\out=⟨#[]⟩)⟩
 have cF:decide ((i:Int)<(l.length:Int))=true->i<l.length:=λh=>by have:=aF h;omega
 have h60:decide ((l.length:Int)<=60)=true->l.length<=60:=λh=>by have:=aF h;omega
 have cP:i<l.length->l.drop i=nth ab l i::l.drop (i+1):=λh=>bJ (ek:=ab) h
 have hsm:decide (((nth ab l i).size:Int)>2048)=false->(nth ab l i).size<=2048/\(bL ((nth ab l i).size:Int)).size<=12:=λh=>by
  have:=aD h
  exact⟨by omega,cM (by omega)⟩
 refine⟨aa,λw1=>⟨λw2=>⟨⟨?_,?_⟩,λw3=>?_,λw4=>⟨Sq4,Sq23,ζ,Sq0,Sq24,ζ,Sq5,Sq25,ζ,[.s 24,.s 25],Sq26,ζ,⟨?_,?_⟩,Sq26,Sq27,ζ,Sq27,Sq28,ζ,Sq28,Sq29,ζ,⟨tv2,?_,?_⟩,?_,λx5 w6=>⟨[.s 23,.s 29],Sq30,ζ,?_,Sq30,Sq31,ζ,?_,Sq0,Sq32,ζ,Sq5,Sq33,ζ,[.s 32,.s 33],Sq34,ζ,⟨?_,?_⟩,Sq34,Sq35,ζ,[.s 31,.s 35],Sq36,ζ,?_,Sq36,Sq4,ζ,λw7=>?_,λw8=>⟨⟨?_,?_⟩,?_⟩⟩⟩⟩,λw9=>?_⟩,λdB=>?_⟩
 all_goals first|refine aw ?_|refine ax ?_|exact bb|(dsimp only [kX,oi];omega)|exact ba|(have:=hsm (by assumption);exact XX (show (out++bL ((nth ab l i).size:Int)).size<=1000000 by rw [ZB4];omega) (by rw [sz1];omega))|(have:=hsm (by assumption);exact XX (show (out++bL ((nth ab l i).size:Int)++(⟨#[58]⟩:ByteArray)).size<=1000000 by rw [ZB4,ZB4,sz1];omega) (show (nth ab l i).size<=1000000 by omega))|skip
 ·have e:dk l ⟨#[]⟩=(⟨#[]⟩,false):=by rw [<-hr (h60 (by assumption)),cP (cF (by assumption)),TB (by assumption)]
  refine⟨[],[],_,_,_,ζ,aC,(),aa,?_,?_,ζ⟩
  ·(show _=fF l);unfold fF;first|(rw [eF (by assumption),e];rfl)|rfl
  ·rfl
 ·have e:dk l ⟨#[]⟩=(⟨#[]⟩,false):=by rw [<-hr (h60 (by assumption)),cP (cF (by assumption)),IA (by assumption)]
  refine⟨[],[],_,_,_,ζ,aC,(),aa,?_,?_,ζ⟩
  ·(show _=fF l);unfold fF;first|(rw [eF (by assumption),e];rfl)|rfl
  ·rfl
 ·have bR:=cF (by assumption)
  have h6:=h60 (by assumption)
  have hs2:¬(((out++bL ((nth ab l i).size:Int)++(⟨#[58]⟩:ByteArray)++nth ab l i).size:Int)>2048):=aD (by assumption)
  refine⟨(i+1,out++bL ((nth ab l i).size:Int)++⟨#[58]⟩++nth ab l i),[],?_,?_,?_⟩
  rotate_right
  ·exact bY
  ·refine⟨bR,Int.ofNat_le.1 (ZH9.1 hs2),λh=>?_,λh=>absurd h6 (by omega)⟩
   rw [<-hr h,cP bR,H9 (by assumption) (by assumption)]
  ·show l.length-(i+1)<l.length-i;omega
 ·have hd:decide ((l.length:Int)<=60)=false:=by assumption
  obtain⟨rfl,rfl⟩:=h0 (by have:=aD hd;omega)
  refine⟨[],[],_,_,_,ζ,aC,(),aa,?_,?_,ζ⟩
  ·(show _=fF l);unfold fF;first|((rw [qx hd];show AV.t [_,A0.s (SV.q (decide ((l.length:Int)<=60)))]=_;rw [hd];rfl))|rfl
  ·rfl
 ·have wZ:¬i<l.length:=by have:=aD (p:=(i:Int)<(l.length:Int)) (by assumption);omega
  have h6:l.length<=60:=by
   by_cases h:l.length<=60
   ·exact h
   ·obtain⟨h1,_⟩:=h0 (by omega);omega
  have hd:decide ((l.length:Int)<=60)=true:=decide_eq_true (by omega)
  have e:bK l=(out,true):=by rw [eF hd,<-hr h6,ZB3 (by omega)];rfl
  refine⟨[],[],_,_,_,ζ,aC,(),aa,?_,?_,ζ⟩
  ·(show _=fF l);unfold fF;first|((rw [e];show AV.t [_,A0.s (SV.q (decide ((l.length:Int)<=60)))]=_;rw [hd];rfl))|rfl
  ·rfl
