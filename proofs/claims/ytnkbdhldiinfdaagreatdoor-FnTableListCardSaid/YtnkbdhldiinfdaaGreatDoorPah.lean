/- Part 8 of the proof of a drawn law. -/
import Derived.LoopN
import Derived.Test.YtnkbdhldiinfdaaGreatDoorProg
import Derived.Test.YtnkbdhldiinfdaaGreatDoorPag
set_option maxHeartbeats 20000000
set_option maxRecDepth 100000
set_option linter.all false
namespace Go.Proofs.YtnkbdhldiinfdaaGreatDoor
namespace GL
theorem Z1 {P:Program}{t:TypeId}:∀(l:List (Nat×Bool×Nat)) (k:Nat),(l.zipIdx k).map (λp=>kn P t p.2)=l.map some→∀(f:Nat) (x:Nat×Bool×Nat),l[f]?=some x→kn P t (k+f)=some x
 |[],_,_,f,x,h=>by simp at h
 |y::l,k,h,0,x,hx=>by
  simp only [List.zipIdx_cons,ZE7,ZG9] at h
  simp at hx;subst hx
  simpa using h.1
 |y::l,k,h,f+1,x,hx=>by
  simp only [List.zipIdx_cons,ZE7,ZG9] at h
  have:=Z1 l (k+1) h.2 f x (by simpa using hx)
  rwa [show k+1+f=k+(f+1) by omega] at this
theorem l6 {P:Program}{t:TypeId}{l:List (Nat×Bool×Nat)}(h:(l.zipIdx 0).map (λp=>kn P t p.2)=l.map some):∀(f:Nat) (x:Nat×Bool×Nat),l[f]?=some x→kn P t f=some x:=λf x hx=>by
 have:=Z1 l 0 h f x hx
 rwa [ZA6] at this
def UU:TI:=⟨false,1,.int .i64,[.int .i64 0],[],[]⟩
theorem ok_int:ib Tryz.prog 3 UU:=⟨by show Sh Tryz.prog 3=some (false,1);kernel_rfl,by show zeroOf Tryz.prog 3=some [.int .i64 0];kernel_rfl,by simp [UU],.inl rfl,by show Tryz.prog.underlying 3=some (.int .i64);kernel_rfl⟩
def NT:TI:=⟨false,1,.bool,[.bool false],[],[]⟩
theorem afI:ib Tryz.prog 4 NT:=⟨by show Sh Tryz.prog 4=some (false,1);kernel_rfl,by show zeroOf Tryz.prog 4=some [.bool false];kernel_rfl,by simp [NT],.inl rfl,by show Tryz.prog.underlying 4=some .bool;kernel_rfl⟩
def F5:TI:=⟨false,1,.int .u8,[.int .u8 0],[],[]⟩
theorem adk:ib Tryz.prog 5 F5:=⟨by show Sh Tryz.prog 5=some (false,1);kernel_rfl,by show zeroOf Tryz.prog 5=some [.int .u8 0];kernel_rfl,by simp [F5],.inl rfl,by show Tryz.prog.underlying 5=some (.int .u8);kernel_rfl⟩
def A6:TI:=⟨false,1,.str,[.string ByteArray.empty],[],[]⟩
theorem abw:ib Tryz.prog 9 A6:=⟨by show Sh Tryz.prog 9=some (false,1);kernel_rfl,by show zeroOf Tryz.prog 9=some [.string ByteArray.empty];kernel_rfl,by simp [A6],.inl rfl,by show Tryz.prog.underlying 9=some .string;kernel_rfl⟩
def xM:TI:=⟨false,1,.bytes 1,[.slice none 0 0],[],[]⟩
theorem WO:ib Tryz.prog 22 xM:=⟨by show Sh Tryz.prog 22=some (false,1);kernel_rfl,by show zeroOf Tryz.prog 22=some [.slice none 0 0];kernel_rfl,by simp [xM],.inl rfl,⟨⟨by show vO Tryz.prog 22=some (1,1,[.int .u8 0]);kernel_rfl,by simp,by decide⟩,5,by kernel_rfl,by kernel_rfl⟩⟩
abbrev ab:EK:=[.str 4096]
def uT:TI:=⟨false,1,.slice ab 16,[.slice none 0 0],[],[]⟩
theorem SD:ib Tryz.prog 23 uT:=⟨by show Sh Tryz.prog 23=some (false,1);kernel_rfl,by show zeroOf Tryz.prog 23=some [.slice none 0 0];kernel_rfl,by simp [uT],.inl rfl,⟨by show vO Tryz.prog 23=some (1,16,[.string ByteArray.empty]);kernel_rfl,by simp,by decide⟩⟩
abbrev ag:EK:=[.i64]
def F8:TI:=⟨false,1,.slice ag 8,[.slice none 0 0],[],[]⟩
theorem adq:ib Tryz.prog 24 F8:=⟨by show Sh Tryz.prog 24=some (false,1);kernel_rfl,by show zeroOf Tryz.prog 24=some [.slice none 0 0];kernel_rfl,by simp [F8],.inl rfl,⟨by show vO Tryz.prog 24=some (1,8,[.int .i64 0]);kernel_rfl,by simp,by decide⟩⟩
def QF:TI:=⟨true,2,.other,[.slice none 0 0,.slice none 0 0],[(0,false,1),(1,false,1)],[(0,1),(1,1)]⟩
theorem adp:ib Tryz.prog 26 QF:=⟨by show Sh Tryz.prog 26=some (true,2);kernel_rfl,by show zeroOf Tryz.prog 26=some [.slice none 0 0,.slice none 0 0];kernel_rfl,l6 (by kernel_rfl),.inr (by kernel_rfl),trivial⟩
abbrev ae:EK:=[.i64,.i64,.i64,.i64,.i64]
def F9:TI:=⟨false,1,.slice ae 40,[.slice none 0 0],[],[]⟩
theorem adr:ib Tryz.prog 27 F9:=⟨by show Sh Tryz.prog 27=some (false,1);kernel_rfl,by show zeroOf Tryz.prog 27=some [.slice none 0 0];kernel_rfl,by simp [F9],.inl rfl,⟨by show vO Tryz.prog 27=some (5,40,[.int .i64 0,.int .i64 0,.int .i64 0,.int .i64 0,.int .i64 0]);kernel_rfl,by simp,by decide⟩⟩
def pB:TI:=⟨true,8,.other,[.slice none 0 0,.slice none 0 0,.slice none 0 0,.int .i64 0,.slice none 0 0,.int .i64 0,.slice none 0 0,.bool false],[(0,false,1),(1,true,2),(3,false,1),(4,false,1),(5,false,1),(6,false,1),(7,false,1)],[(0,1),(1,2),(3,1),(4,1),(5,1),(6,1),(7,1)]⟩
theorem ado:ib Tryz.prog 29 pB:=⟨by show Sh Tryz.prog 29=some (true,8);kernel_rfl,by show zeroOf Tryz.prog 29=some [.slice none 0 0,.slice none 0 0,.slice none 0 0,.int .i64 0,.slice none 0 0,.int .i64 0,.slice none 0 0,.bool false];kernel_rfl,l6 (by kernel_rfl),.inr (by kernel_rfl),trivial⟩
theorem id_Ptr : IntsD Tryz.prog 1 31 5 := ⟨by kernel_rfl, by kernel_rfl, [("At", 3, 0), ("Birth", 3, 1), ("Size", 3, 2), ("Sum", 3, 3), ("Level", 3, 4)], by kernel_rfl, by decide, rfl, .inl ⟨by kernel_rfl, by kernel_rfl, by decide, rfl, .inl ⟨by kernel_rfl, by kernel_rfl, by decide, rfl, .inl ⟨by kernel_rfl, by kernel_rfl, by decide, rfl, .inl ⟨by kernel_rfl, by kernel_rfl, by decide, rfl, .inl ⟨by kernel_rfl, by kernel_rfl, rfl⟩⟩⟩⟩⟩⟩
def acq:TI:=⟨true,5,.ints 5,[.int .i64 0,.int .i64 0,.int .i64 0,.int .i64 0,.int .i64 0],[(0,false,1),(1,false,1),(2,false,1),(3,false,1),(4,false,1)],[(0,1),(1,1),(2,1),(3,1),(4,1)]⟩
theorem ahw:ib Tryz.prog 31 acq:=⟨by show Sh Tryz.prog 31=some (true,5);kernel_rfl,by show zeroOf Tryz.prog 31=some [.int .i64 0,.int .i64 0,.int .i64 0,.int .i64 0,.int .i64 0];kernel_rfl,l6 (by kernel_rfl),.inr (by kernel_rfl),⟨⟨1,by decide,id_Ptr⟩,by kernel_rfl⟩⟩
theorem id_Tree : IntsD Tryz.prog 2 33 7 := ⟨by kernel_rfl, by kernel_rfl, [("Root", 31, 0), ("Depth", 3, 5), ("Many", 3, 6)], by kernel_rfl, by decide, rfl, .inr ⟨5, by kernel_rfl, id_Ptr, by decide, rfl, .inl ⟨by kernel_rfl, by kernel_rfl, by decide, rfl, .inl ⟨by kernel_rfl, by kernel_rfl, rfl⟩⟩⟩⟩
def sV:TI:=⟨true,7,.ints 7,[.int .i64 0,.int .i64 0,.int .i64 0,.int .i64 0,.int .i64 0,.int .i64 0,.int .i64 0],[(0,true,5),(5,false,1),(6,false,1)],[(0,5),(5,1),(6,1)]⟩
theorem afJ:ib Tryz.prog 33 sV:=⟨by show Sh Tryz.prog 33=some (true,7);kernel_rfl,by show zeroOf Tryz.prog 33=some [.int .i64 0,.int .i64 0,.int .i64 0,.int .i64 0,.int .i64 0,.int .i64 0,.int .i64 0];kernel_rfl,l6 (by kernel_rfl),.inr (by kernel_rfl),⟨⟨2,by decide,id_Tree⟩,by kernel_rfl⟩⟩
theorem id_Node : IntsD Tryz.prog 3 49 10 := ⟨by kernel_rfl, by kernel_rfl, [("Kind", 3, 0), ("Links", 3, 1), ("Size", 3, 2), ("Tree", 33, 3)], by kernel_rfl, by decide, rfl, .inl ⟨by kernel_rfl, by kernel_rfl, by decide, rfl, .inl ⟨by kernel_rfl, by kernel_rfl, by decide, rfl, .inl ⟨by kernel_rfl, by kernel_rfl, by decide, rfl, .inr ⟨7, by kernel_rfl, id_Tree, rfl⟩⟩⟩⟩⟩
def YK:TI:=⟨true,10,.ints 10,[.int .i64 0,.int .i64 0,.int .i64 0,.int .i64 0,.int .i64 0,.int .i64 0,.int .i64 0,.int .i64 0,.int .i64 0,.int .i64 0],[(0,false,1),(1,false,1),(2,false,1),(3,true,7)],[(0,1),(1,1),(2,1),(3,7)]⟩
theorem afL:ib Tryz.prog 49 YK:=⟨by show Sh Tryz.prog 49=some (true,10);kernel_rfl,by show zeroOf Tryz.prog 49=some [.int .i64 0,.int .i64 0,.int .i64 0,.int .i64 0,.int .i64 0,.int .i64 0,.int .i64 0,.int .i64 0,.int .i64 0,.int .i64 0];kernel_rfl,l6 (by kernel_rfl),.inr (by kernel_rfl),⟨⟨3,by decide,id_Node⟩,by kernel_rfl⟩⟩
def YJ:TI:=⟨true,2,.other,[.slice none 0 0,.int .i64 0],[(0,false,1),(1,false,1)],[(0,1),(1,1)]⟩
theorem afH:ib Tryz.prog 83 YJ:=⟨by show Sh Tryz.prog 83=some (true,2);kernel_rfl,by show zeroOf Tryz.prog 83=some [.slice none 0 0,.int .i64 0];kernel_rfl,l6 (by kernel_rfl),.inr (by kernel_rfl),trivial⟩
abbrev o7:EK:=[.i64,.i64,.i64,.i64,.i64,.i64,.i64,.i64,.i64,.i64]
def A8:TI:=⟨false,1,.slice o7 80,[.slice none 0 0],[],[]⟩
theorem aby:ib Tryz.prog 84 A8:=⟨by show Sh Tryz.prog 84=some (false,1);kernel_rfl,by show zeroOf Tryz.prog 84=some [.slice none 0 0];kernel_rfl,by simp [A8],.inl rfl,⟨by show vO Tryz.prog 84=some (10,80,[.int .i64 0,.int .i64 0,.int .i64 0,.int .i64 0,.int .i64 0,.int .i64 0,.int .i64 0,.int .i64 0,.int .i64 0,.int .i64 0]);kernel_rfl,by simp,by decide⟩⟩
abbrev EN:EK:=[.i64,.str 4096,.str 4096,.i64,.str 4096]
def NU:TI:=⟨false,1,.slice EN 64,[.slice none 0 0],[],[]⟩
theorem afK:ib Tryz.prog 111 NU:=⟨by show Sh Tryz.prog 111=some (false,1);kernel_rfl,by show zeroOf Tryz.prog 111=some [.slice none 0 0];kernel_rfl,by simp [NU],.inl rfl,⟨by show vO Tryz.prog 111=some (5,64,[.int .i64 0,.string ByteArray.empty,.string ByteArray.empty,.int .i64 0,.string ByteArray.empty]);kernel_rfl,by simp,by decide⟩⟩
def agA:TI:=⟨true,5,.other,[.int .i64 0,.string ByteArray.empty,.string ByteArray.empty,.int .i64 0,.string ByteArray.empty],[(0,false,1),(1,false,1),(2,false,1),(3,false,1),(4,false,1)],[(0,1),(1,1),(2,1),(3,1),(4,1)]⟩
theorem aiS:ib Tryz.prog 115 agA:=⟨by show Sh Tryz.prog 115=some (true,5);kernel_rfl,by show zeroOf Tryz.prog 115=some [.int .i64 0,.string ByteArray.empty,.string ByteArray.empty,.int .i64 0,.string ByteArray.empty];kernel_rfl,l6 (by kernel_rfl),.inr (by kernel_rfl),trivial⟩
def QE:TI:=⟨true,16,.other,[.slice none 0 0,.slice none 0 0,.slice none 0 0,.int .i64 0,.slice none 0 0,.int .i64 0,.slice none 0 0,.bool false,.int .i64 0,.int .i64 0,.int .i64 0,.int .i64 0,.int .i64 0,.int .i64 0,.int .i64 0,.bool false],[(0,true,8),(8,true,7),(15,false,1)],[(0,8),(8,7),(15,1)]⟩
theorem adm:ib Tryz.prog 159 QE:=⟨by show Sh Tryz.prog 159=some (true,16);kernel_rfl,by show zeroOf Tryz.prog 159=some [.slice none 0 0,.slice none 0 0,.slice none 0 0,.int .i64 0,.slice none 0 0,.int .i64 0,.slice none 0 0,.bool false,.int .i64 0,.int .i64 0,.int .i64 0,.int .i64 0,.int .i64 0,.int .i64 0,.int .i64 0,.bool false];kernel_rfl,l6 (by kernel_rfl),.inr (by kernel_rfl),trivial⟩
abbrev aK:EK:=[.str 4096,.i64]
def xN:TI:=⟨false,1,.slice aK 24,[.slice none 0 0],[],[]⟩
theorem WQ:ib Tryz.prog 186 xN:=⟨by show Sh Tryz.prog 186=some (false,1);kernel_rfl,by show zeroOf Tryz.prog 186=some [.slice none 0 0];kernel_rfl,by simp [xN],.inl rfl,⟨by show vO Tryz.prog 186=some (2,24,[.string ByteArray.empty,.int .i64 0]);kernel_rfl,by simp,by decide⟩⟩
def QG:TI:=⟨true,2,.other,[.string ByteArray.empty,.int .i64 0],[(0,false,1),(1,false,1)],[(0,1),(1,1)]⟩
theorem ads:ib Tryz.prog 193 QG:=⟨by show Sh Tryz.prog 193=some (true,2);kernel_rfl,by show zeroOf Tryz.prog 193=some [.string ByteArray.empty,.int .i64 0];kernel_rfl,l6 (by kernel_rfl),.inr (by kernel_rfl),trivial⟩
def F7:TI:=⟨false,1,.iface,[.nilIface],[],[]⟩
theorem adn:ib Tryz.prog 149 F7:=⟨by show Sh Tryz.prog 149=some (false,1);kernel_rfl,by show zeroOf Tryz.prog 149=some [.nilIface];kernel_rfl,by simp [F7],.inl rfl,by show isIface Tryz.prog 149=true;kernel_rfl⟩
def A7:TI:=⟨false,1,.arr 8,[.slice none 0 0],[],[]⟩
theorem abx:ib Tryz.prog 179 A7:=⟨by show Sh Tryz.prog 179=some (false,1);kernel_rfl,by show zeroOf Tryz.prog 179=some [.slice none 0 0];kernel_rfl,by simp [A7],.inl rfl,⟨⟨.pointer none,by kernel_rfl⟩,by decide⟩⟩
def tab:TypeId→Option TI
 |3=>some UU
 |4=>some NT
 |5=>some F5
 |9=>some A6
 |22=>some xM
 |23=>some uT
 |24=>some F8
 |26=>some QF
 |27=>some F9
 |29=>some pB
 |31=>some acq
 |33=>some sV
 |49=>some YK
 |83=>some YJ
 |84=>some A8
 |111=>some NU
 |115=>some agA
 |159=>some QE
 |186=>some xN
 |193=>some QG
 |149=>some F7
 |179=>some A7
 |_=>none
theorem acu:∀t i,tab t=some i→ib Tryz.prog t i:=by
 intro t i h
 unfold tab at h
 split at h
 ·cases h;exact ok_int
 ·cases h;exact afI
 ·cases h;exact adk
 ·cases h;exact abw
 ·cases h;exact WO
 ·cases h;exact SD
 ·cases h;exact adq
 ·cases h;exact adp
 ·cases h;exact adr
 ·cases h;exact ado
 ·cases h;exact ahw
 ·cases h;exact afJ
 ·cases h;exact afL
 ·cases h;exact afH
 ·cases h;exact aby
 ·cases h;exact afK
 ·cases h;exact aiS
 ·cases h;exact adm
 ·cases h;exact WQ
 ·cases h;exact ads
 ·cases h;exact adn
 ·cases h;exact abx
 ·cases h
theorem mixed:Tryz.prog.follows .mixedOrders=true:=by kernel_rfl
end GL
namespace GL
def Has (P:Program) (f:FuncId) (c:cn):Prop:=wj P f c∧Enters P f
def look:List (FuncId×cn)→FuncId→Option cn
 |[],_=>none
 |p::l,f=>bif Nat.beq p.1 f then some p.2 else look l f
def gN (P:Program):List (FuncId×cn)→Prop
 |[]=>True
 |p::l=>Has P p.1 p.2∧gN P l
theorem H0 {P:Program}:∀{l:List (FuncId×cn)},gN P l→∀{f:FuncId}{c:cn},look l f=some c→Has P f c
 |[],_,f,c,h=>by cases h
 |p::l,hl,f,c,h=>by
  simp only [look] at h
  cases hb:Nat.beq p.1 f with
  |true=>
   rw [hb] at h
   have:p.1=f:=by simpa using hb
   cases h
   rw [←this];exact hl.1
  |false=>rw [hb] at h;exact H0 hl.2 h
def mkE (n:Nat) (l:List (FuncId×cn)) (ex wr pt:Nat→Bool):Env:=⟨n,tab,look l,ex,wr,pt⟩
theorem oF {n:Nat}{l:List (FuncId×cn)}{ex wr pt:Nat→Bool}(h:gN Tryz.prog l):AW Tryz.prog (mkE n l ex wr pt):=⟨acu,λ_ _ hc=>H0 h hc⟩
abbrev zT:Nat→Bool:=λ_=>true
abbrev Sq0:List fJ:=[.s 0]
abbrev Sq1:List fJ:=[.s 1]
abbrev Sq2:List fJ:=[.s 2]
abbrev Sq3:List fJ:=[.s 3]
abbrev Sq4:List fJ:=[.s 4]
abbrev Sq5:List fJ:=[.s 5]
abbrev Sq6:List fJ:=[.s 6]
abbrev Sq7:List fJ:=[.s 7]
abbrev Sq8:List fJ:=[.s 8]
abbrev Sq9:List fJ:=[.s 9]
abbrev Sq10:List fJ:=[.s 10]
abbrev Sq11:List fJ:=[.s 11]
abbrev Sq12:List fJ:=[.s 12]
abbrev Sq13:List fJ:=[.s 13]
abbrev Sq14:List fJ:=[.s 14]
abbrev Sq15:List fJ:=[.s 15]
abbrev Sq16:List fJ:=[.s 16]
abbrev Sq17:List fJ:=[.s 17]
abbrev Sq18:List fJ:=[.s 18]
abbrev Sq19:List fJ:=[.s 19]
abbrev Sq20:List fJ:=[.s 20]
abbrev Sq21:List fJ:=[.s 21]
abbrev Sq22:List fJ:=[.s 22]
abbrev Sq23:List fJ:=[.s 23]
abbrev Sq24:List fJ:=[.s 24]
abbrev Sq25:List fJ:=[.s 25]
abbrev Sq26:List fJ:=[.s 26]
abbrev Sq27:List fJ:=[.s 27]
abbrev Sq28:List fJ:=[.s 28]
abbrev Sq29:List fJ:=[.s 29]
abbrev Sq30:List fJ:=[.s 30]
abbrev Sq31:List fJ:=[.s 31]
abbrev Sq32:List fJ:=[.s 32]
abbrev Sq33:List fJ:=[.s 33]
abbrev Sq34:List fJ:=[.s 34]
abbrev Sq35:List fJ:=[.s 35]
abbrev Sq36:List fJ:=[.s 36]
abbrev Sq37:List fJ:=[.s 37]
abbrev Sq38:List fJ:=[.s 38]
abbrev Sq39:List fJ:=[.s 39]
abbrev Sq40:List fJ:=[.s 40]
abbrev Sq41:List fJ:=[.s 41]
abbrev Sq42:List fJ:=[.s 42]
abbrev Sq43:List fJ:=[.s 43]
abbrev Sq44:List fJ:=[.s 44]
abbrev Sq45:List fJ:=[.s 45]
abbrev Sq46:List fJ:=[.s 46]
abbrev Sq47:List fJ:=[.s 47]
abbrev Sq48:List fJ:=[.s 48]
abbrev Sq49:List fJ:=[.s 49]
abbrev Sq50:List fJ:=[.s 50]
abbrev Sq51:List fJ:=[.s 51]
abbrev Sq52:List fJ:=[.s 52]
abbrev Sq53:List fJ:=[.s 53]
abbrev Sq54:List fJ:=[.s 54]
abbrev Sq55:List fJ:=[.s 55]
abbrev Sq56:List fJ:=[.s 56]
abbrev Sq57:List fJ:=[.s 57]
abbrev Sq58:List fJ:=[.s 58]
abbrev Sq59:List fJ:=[.s 59]
abbrev Sq60:List fJ:=[.s 60]
abbrev Sq61:List fJ:=[.s 61]
abbrev Sq62:List fJ:=[.s 62]
abbrev Sq63:List fJ:=[.s 63]
abbrev Sq64:List fJ:=[.s 64]
abbrev Sq65:List fJ:=[.s 65]
abbrev Sq66:List fJ:=[.s 66]
abbrev Sq67:List fJ:=[.s 67]
abbrev Sq68:List fJ:=[.s 68]
abbrev Sq69:List fJ:=[.s 69]
abbrev Sq70:List fJ:=[.s 70]
abbrev Sq71:List fJ:=[.s 71]
abbrev Sq72:List fJ:=[.s 72]
abbrev Sq73:List fJ:=[.s 73]
abbrev Sq74:List fJ:=[.s 74]
abbrev Sq75:List fJ:=[.s 75]
abbrev Sq76:List fJ:=[.s 76]
abbrev Sq77:List fJ:=[.s 77]
abbrev Sq78:List fJ:=[.s 78]
abbrev Sq79:List fJ:=[.s 79]
abbrev Sq80:List fJ:=[.s 80]
abbrev Sq81:List fJ:=[.s 81]
abbrev Sq82:List fJ:=[.s 82]
abbrev Sq83:List fJ:=[.s 83]
abbrev Sq84:List fJ:=[.s 84]
abbrev Sq85:List fJ:=[.s 85]
abbrev Sq86:List fJ:=[.s 86]
abbrev Sq87:List fJ:=[.s 87]
abbrev Sq88:List fJ:=[.s 88]
abbrev Sq89:List fJ:=[.s 89]
abbrev Sq90:List fJ:=[.s 90]
abbrev Sq91:List fJ:=[.s 91]
abbrev Sq93:List fJ:=[.s 93]
abbrev Sq94:List fJ:=[.s 94]
abbrev Sq113:List fJ:=[.s 113]
abbrev Sq114:List fJ:=[.s 114]
abbrev Sq115:List fJ:=[.s 115]
abbrev Sq116:List fJ:=[.s 116]
abbrev Sq117:List fJ:=[.s 117]
abbrev Sq118:List fJ:=[.s 118]
abbrev Sq119:List fJ:=[.s 119]
abbrev Sq120:List fJ:=[.s 120]
abbrev Sq121:List fJ:=[.s 121]
abbrev Sq122:List fJ:=[.s 122]
abbrev Sq123:List fJ:=[.s 123]
abbrev Sq124:List fJ:=[.s 124]
abbrev Sq125:List fJ:=[.s 125]
abbrev Sq126:List fJ:=[.s 126]
abbrev Sq127:List fJ:=[.s 127]
abbrev Sq128:List fJ:=[.s 128]
abbrev Sq129:List fJ:=[.s 129]
abbrev Sq130:List fJ:=[.s 130]
abbrev Sq131:List fJ:=[.s 131]
abbrev Sq132:List fJ:=[.s 132]
abbrev Sq133:List fJ:=[.s 133]
abbrev Sq134:List fJ:=[.s 134]
abbrev Sq135:List fJ:=[.s 135]
abbrev Sq136:List fJ:=[.s 136]
abbrev Sq137:List fJ:=[.s 137]
abbrev Sq138:List fJ:=[.s 138]
abbrev Sq139:List fJ:=[.s 139]
abbrev Sq140:List fJ:=[.s 140]
abbrev Sq141:List fJ:=[.s 141]
abbrev Sq142:List fJ:=[.s 142]
abbrev Sq143:List fJ:=[.s 143]
abbrev Sq144:List fJ:=[.s 144]
abbrev zF:Nat→Bool:=λ_=>false
theorem Has.fm (ex wr pt:Nat→Bool) {l:List (FuncId×cn)}(hl:gN Tryz.prog l) {f:FuncId}{fn:Func}{cd:Code}{C:cn}(hf:Tryz.prog.funcs[f]?=some fn)
  (h : ∀ x y, C.pre x y → vc Tryz.prog fn.ntmps (sem (mkE fn.ntmps l ex wr pt)) cd (entry (APs.avs C.A x) (APs.avs C.B y)) (endQ (mkE fn.ntmps l ex wr pt).sh fn.results.toList C.B.length C.mv (fun r os => ∃ z, C.φ x y z ∧ r = C.r x y z ∧ os = C.o x y z ∧ os.length = C.B.length + C.nf))) (hb : fn.body = some cd := by exact rfl) (hnm : fn.name ≠ "runtime.NumGoroutine" := by decide) (hlen : C.A.length ≤ fn.ntmps := by exact zqNlb rfl) : Has Tryz.prog f C :=
 ⟨wj.of (oF hl) mixed hf hb rfl hlen h,fn,hf,by rw [hb];rfl,hnm⟩
theorem Has.of {l:List (FuncId×cn)}(hl:gN Tryz.prog l) {f:FuncId}{fn:Func}{cd:Code}{C:cn}(hf:Tryz.prog.funcs[f]?=some fn)
  (h : ∀ x y, C.pre x y → vc Tryz.prog fn.ntmps (sem (mkE fn.ntmps l (fun _ => true) (fun _ => false) (fun _ => false))) cd (entry (APs.avs C.A x) (APs.avs C.B y)) (endQ (mkE fn.ntmps l (fun _ => true) (fun _ => false) (fun _ => false)).sh fn.results.toList C.B.length C.mv (fun r os => ∃ z, C.φ x y z ∧ r = C.r x y z ∧ os = C.o x y z ∧ os.length = C.B.length + C.nf))) (hb : fn.body = some cd := by exact rfl) (hnm : fn.name ≠ "runtime.NumGoroutine" := by decide) (hlen : C.A.length ≤ fn.ntmps := by exact zqNlb rfl) : Has Tryz.prog f C :=
 Has.fm _ _ _ hl hf h hb hnm hlen
def cn.below (C:cn) (μ:APs.Ty C.A→APs.Ty C.B→Nat) (n:Nat):cn:= { C with pre:=λx y=>C.pre x y∧μ x y<n }
theorem Has.akC (ex wr pt:Nat→Bool) {f:FuncId}{fn:Func}{cd:Code}{C:cn}(μ:APs.Ty C.A→APs.Ty C.B→Nat) {l:List (FuncId×cn)}(hl:gN Tryz.prog l) (hf:Tryz.prog.funcs[f]?=some fn)
  (h : ∀ x y, C.pre x y → Has Tryz.prog f (C.below μ (μ x y)) → vc Tryz.prog fn.ntmps (sem (mkE fn.ntmps ((f, C.below μ (μ x y)) :: l) ex wr pt)) cd (entry (APs.avs C.A x) (APs.avs C.B y)) (endQ (mkE fn.ntmps l ex wr pt).sh fn.results.toList C.B.length C.mv (fun r os => ∃ z, C.φ x y z ∧ r = C.r x y z ∧ os = C.o x y z ∧ os.length = C.B.length + C.nf))) (hb : fn.body = some cd := by exact rfl) (hnm : fn.name ≠ "runtime.NumGoroutine" := by decide) (hlen : C.A.length ≤ fn.ntmps := by exact zqNlb rfl) : Has Tryz.prog f C := by
 have hE:Enters Tryz.prog f:=⟨fn,hf,by rw [hb];rfl,hnm⟩
 have key:∀n,wj Tryz.prog f (C.below μ n):=by
  intro n
  induction n with
  |zero=>intro x y hp;exact absurd hp.2 (by omega)
  |succ n ih=>
   intro (x:APs.Ty C.A) (y:APs.Ty C.B) (hp:C.pre x y∧μ x y<n+1)
   have hm:Has Tryz.prog f (C.below μ (μ x y)):=⟨λx' y' hp'=>ih x' y' ⟨hp'.1,by have:=hp.2;have h2:μ x' y' < μ x y:=hp'.2;omega⟩,hE⟩
   have hl':gN Tryz.prog ((f,C.below μ (μ x y))::l):=⟨hm,hl⟩
   have hx:(APs.avs C.A x).length≤fn.ntmps:=by rw [APs.fE];exact hlen
   have hy:(APs.avs C.B y).length=C.B.length:=APs.fE C.B y
   exact TC.tv (P:=Tryz.prog) (N:=fn.ntmps) (S:=sem (mkE fn.ntmps ((f,C.below μ (μ x y))::l) ex wr pt)) (sh:=(mkE fn.ntmps l ex wr pt).sh) (f:=f) (fn:=fn) (cd:=cd) (args:=APs.avs C.A x) (bs:=APs.avs C.B y) (mv:=C.mv) (post:=λr os=>∃z,C.φ x y z∧r=C.r x y z∧os=C.o x y z∧os.length=C.B.length+C.nf) mixed (oz (oF (n:=fn.ntmps) (ex:=ex) (wr:=wr) (pt:=pt) hl')) (Env.DO (oF (n:=fn.ntmps) (ex:=ex) (wr:=wr) (pt:=pt) hl)) hf hb rfl hx (by rw [hy];exact h x y hp.1 hm)
 exact⟨λx y hp=>key (μ x y+1) x y ⟨hp,by omega⟩,hE⟩
theorem TC.Y4 {P:Program}{f:FuncId}{mv:Bool}{args bs:List AV}{post zv:AV→List AV→Prop}(h:TC P f mv args bs post) (hp:∀r os,post r os→∃j,zv r (os++List.replicate j .zz)):TC P f mv args bs zv:=by
 intro W T β vs h1 h2 h3 h4 h5
 refine (h W T β vs h1 h2 h3 h4 h5).mono λe w' ⟨v,r,os,T',β',e1,e2,e3,e4,e5,e6⟩=>?_
 obtain⟨j,hj⟩:=hp _ _ e2
 have tN:∀(i:Nat) (av:AV),(os++List.replicate j AV.zz)[i]?=some av→av≠.zz→os[i]?=some av:=by
  intro i av hi hz
  by_cases bU:i<os.length
  ·rwa [ZC2 bU] at hi
  ·rw [ZC6 (by omega)] at hi
   have:=ZB6 hi
   exact absurd (ZD6.1 this).2 hz
 have hlen:os.length≤(os++List.replicate j AV.zz).length:=by rw [ZA0];omega
 exact⟨v,r,_,T',β',e1,hj,e3,⟨λi hi=>ZG3 (e4.1 i hi) hlen,e4.2⟩,e5,{
  len:=ZB0 e6.len hlen
  same:=e6.same
  at_:=λi av hi hz=>by
   obtain⟨g1,g2,g3,g4,g5⟩:=e6.at_ i av (tN i av hi hz) hz
   exact⟨g1,g2,g3,λj hj=>ZG3 (g4 j hj) hlen,g5⟩
  inj:=λi k av av' hi hz hk hz' e=>e6.inj i k av av' (tN i av hi hz) hz (tN k av' hk hz') hz' e }⟩
theorem Has.ofZ (ex wr pt:Nat→Bool) {l:List (FuncId×cn)}(hl:gN Tryz.prog l) {f:FuncId}{fn:Func}{cd:Code}{C:cn}(hf:Tryz.prog.funcs[f]?=some fn)
  (h : ∀ x y, C.pre x y → vc Tryz.prog fn.ntmps (sem (mkE fn.ntmps l ex wr pt)) cd (entry (APs.avs C.A x) (APs.avs C.B y)) (endQ (mkE fn.ntmps l ex wr pt).sh fn.results.toList C.B.length C.mv (fun r os => ∃ z j, C.φ x y z ∧ r = C.r x y z ∧ os ++ List.replicate j .zz = C.o x y z ∧ (C.o x y z).length = C.B.length + C.nf))) (hb : fn.body = some cd := by exact rfl) (hnm : fn.name ≠ "runtime.NumGoroutine" := by decide) (hlen : C.A.length ≤ fn.ntmps := by exact zqNlb rfl) : Has Tryz.prog f C := by
 refine⟨λx y hp=>?_,fn,hf,by rw [hb];rfl,hnm⟩
 have hx:(APs.avs C.A x).length≤fn.ntmps:=by rw [APs.fE];exact hlen
 have hy:(APs.avs C.B y).length=C.B.length:=APs.fE C.B y
 refine TC.Y4 (TC.tv (P:=Tryz.prog) (N:=fn.ntmps) (S:=sem (mkE fn.ntmps l ex wr pt)) (sh:=(mkE fn.ntmps l ex wr pt).sh) (f:=f) (fn:=fn) (cd:=cd) (args:=APs.avs C.A x) (bs:=APs.avs C.B y) (mv:=C.mv) (post:=λr os=>∃z j,C.φ x y z∧r=C.r x y z∧os++List.replicate j .zz=C.o x y z∧(C.o x y z).length=C.B.length+C.nf) mixed (oz (oF (n:=fn.ntmps) (ex:=ex) (wr:=wr) (pt:=pt) hl)) (Env.DO (oF (n:=fn.ntmps) (ex:=ex) (wr:=wr) (pt:=pt) hl)) hf hb rfl hx (by rw [hy];exact h x y hp)) ?_
 rintro r os ⟨z,j,h1,h2,h3,h4⟩
 exact⟨j,z,h1,h2,h3,by rw [h3];exact h4⟩
def Wk (r' r:AV):Prop:=(∀(T:bb) (β:Nat→Nat) (v:Value),r.rel T β v→r'.rel T β v)∧(∀i∈r'.boxes,i∈r.boxes)∧(r.od=true→r'.od=true)
theorem Wk.refl (r:AV):Wk r r:=⟨λ_ _ _ h=>h,λ_ h=>h,λh=>h⟩
theorem Wk.of_eq {r' r:AV}(h:r'=r):Wk r' r:=h ▸ Wk.refl _
theorem Wk.nil (ek:EK):Wk (.s (.vw ek [])) (.s (.v (.slice none 0 0))):=⟨λ_ _ v h=>.inl ⟨rfl,none,0,h⟩,λi h=>by simp [AV.boxes,A0.boxes,SV.boxes] at h,λ_=>rfl⟩
def WkT:List A0→List A0→Prop
 |[],[]=>True
 |x::l,y::m=>Wk (.o x) (.o y)∧WkT l m
 |_,_=>False
theorem WkT.all:∀{l m:List A0},WkT l m→(∀(T:bb) (β:Nat→Nat) (vs:List Value),uD T β m vs→uD T β l vs)∧(∀i∈eS l,i∈eS m)∧(uB m=true→uB l=true)
 |[],[],_=>⟨λ_ _ _ h=>h,λ_ h=>h,λh=>h⟩
 |[],_::_,h=>h.elim
 |_::_,[],h=>h.elim
 |x::l,y::m,h=>by
  obtain⟨a1,a2,a3⟩:=h.1
  obtain⟨b1,b2,b3⟩:=WkT.all h.2
  refine⟨λT β vs hr=>?_,λi hi=>?_,λhf=>?_⟩
  ·cases vs with
   |nil=>exact hr.elim
   |cons v vs=>exact⟨a1 T β v hr.1,b1 T β vs hr.2⟩
  ·simp only [eS,ZB4] at hi ⊢
   rcases hi with hi |hi
   ·exact .inl (a2 i hi)
   ·exact .inr (b2 i hi)
  ·simp only [uB,ZA9] at hf ⊢
   exact⟨a3 hf.1,b3 hf.2⟩
theorem Wk.tup {l m:List A0}(h:WkT l m):Wk (.t l) (.t m):=
 ⟨λT β v hr=>by obtain⟨vs,e,hl⟩:=hr;exact⟨vs,e,h.all.1 T β _ hl⟩,h.all.2.1,h.all.2.2⟩
theorem TC.aiA {P:Program}{f:FuncId}{mv:Bool}{args bs:List AV}{post zv:AV→List AV→Prop}(h:TC P f mv args bs post) (hp:∀r os,post r os→∃r' j,Wk r' r∧zv r' (os++List.replicate j .zz)):TC P f mv args bs zv:=by
 refine TC.Y4 (post:=λr os=>∃j,zv r (os++List.replicate j .zz)) ?_ (λr os h=>h)
 intro W T β vs h1 h2 h3 h4 h5
 refine (h W T β vs h1 h2 h3 h4 h5).mono λe w' ⟨v,r,os,T',β',e1,e2,e3,e4,e5⟩=>?_
 obtain⟨r',j,hw,hj⟩:=hp _ _ e2
 exact⟨v,r',os,T',β',e1,⟨j,hj⟩,hw.1 _ _ _ e3,⟨λi hi=>e4.1 i (hw.2.1 i hi),hw.2.2 e4.2⟩,e5⟩
theorem aw {P:Program}{n:Nat}{S:Sm}{cd:Code}{τ:St}{Q':o6}(h:vc P n S cd τ Q'):vc P n S cd τ Q':=h
theorem ax {F:Oper→Q Rs}{l:List Oper}{τ:St}{K:St→Prop}(h:vcT F l τ K):vcT F l τ K:=h
theorem cN {l:List (FuncId×cn)}{n:Nat}{ex wr pt:Nat→Bool}(hl:gN Tryz.prog l) {τ:St}{Q':o6}{cd:Code}{ι:Type}(bZ:List fJ) (J:ι→AO) (φ:ι→Prop) (μ:ι→Nat) (x0:ι) (sg0:List (Nat×Nat)) (h0:φ x0) (hs:EO sg0 τ τ bZ (J x0))
  (tL:∀x,φ x→vc Tryz.prog n (sem (mkE n l ex wr pt)) cd ((oM τ bZ).ap (J x)) (zd (λτ'=>∃y sg,φ y∧μ y < μ x∧EO sg τ τ' bZ (J y)) Q')):TW Tryz.prog n (.loop cd) τ Q':=
 agK (E:=mkE n l ex wr pt) (oF hl) mixed bZ J φ μ x0 sg0 h0 hs tL
abbrev X3 (A:List AP) (pre:APs.Ty A→Prop) (r:APs.Ty A→AV):cn where
 A:=A
 B:=[]
 pre:=λx _=>pre x
 α:=λ_ _=>Unit
 φ:=λ_ _ _=>True
 r:=λx _ _=>r x
 o:=λ_ _ _=>[]
 nf:=0
def ik (n lo hi:Int):Bool:=decide (lo≤n)&&decide (n≤hi)
theorem cC {n lo hi:Int}:ik n lo hi=true↔lo≤n∧n≤hi:=by simp [ik]
def hZ:cn:=X3 [.s .int,.s .int,.s .int] (λ_=>True) λ(n,lo,hi)=>.q (ik n lo hi)
theorem iA:Has Tryz.prog 35 hZ:=by
 refine Has.of (l:=[]) trivial Tryz.func35 ?_
 rintro⟨n,lo,hi⟩ _ _
 refine⟨aa,λh1=>⟨[],[],_,_,_,ζ,⟨tv2,aa⟩,(),aa,?_,ζ,ζ⟩,λh1=>⟨[],[],_,_,_,ζ,⟨tv2,aa⟩,(),aa,?_,ζ,ζ⟩⟩
 ·have h2:lo≤n:=by simpa using h1
  show AV.q (decide (n≤hi))=AV.q (decide (lo≤n)&&decide (n≤hi))
  simp [h2]
 ·have h2:¬lo≤n:=by simpa using h1
  show AV.q false=AV.q (decide (lo≤n)&&decide (n≤hi))
  simp [h2]
abbrev Pt:=Int×Int×Int×Int×Int
abbrev PtS:List SP:=[.int,.int,.int,.int,.int]
def au (p:Pt):Bool:=decide (p.1=0)&&(decide (p.2.1=0)&&(decide (p.2.2.1=0)&&(decide (p.2.2.2.1=0)&&decide (p.2.2.2.2=0))))
def cx:cn:=X3 [.a PtS] (λ_=>True) λp=>.q (au p)
theorem cz:Has Tryz.prog 81 cx:=by
 refine Has.of (l:=[]) trivial Tryz.func81 ?_
 rintro⟨a,b,c,d,e⟩ _ _
 refine⟨[],[],_,_,_,ζ,⟨tv2,aa⟩,(),aa,?_,ζ,ζ⟩
 rfl
end GL
namespace GL
def vcP (P:Program) (N:Nat) (S:Sm) (Q':o6):Nat→Code→St→Prop
 |0,cd,τ=>TW P N cd τ Q'
 |n+1,.seq x y,τ=>vc P N S x τ (zd (λτ'=>vcP P N S Q' n y τ') Q')
 |_+1,_,_=>False
theorem K7 {P:Program}{N:Nat}{S:Sm}{Q':o6}(hm:P.follows .mixedOrders=true) (hS:UP P N S):∀(n:Nat) (cd:Code) (τ:St),vcP P N S Q' n cd τ→TW P N cd τ Q'
 |0,cd,τ,h=>h
 |n+1,.seq x y,τ,h=>TW.seq ((gp hm hS x τ _ h).mono λe τ' hq=>by
  cases e with
  |normal=>exact K7 hm hS n y τ' hq
  |_=>exact hq)
 |n+1,.skip,τ,h=>h.elim
 |n+1,.region _ _ _,τ,h=>h.elim
 |n+1,.cond _ _ _,τ,h=>h.elim
 |n+1,.block _ _,τ,h=>h.elim
 |n+1,.loop _,τ,h=>h.elim
 |n+1,.scope _,τ,h=>h.elim
 |n+1,.exit _,τ,h=>h.elim
 |n+1,.label _,τ,h=>h.elim
 |n+1,.ret,τ,h=>h.elim
 |n+1,.rangeFunc _ _ _ _,τ,h=>h.elim
 |n+1,.goto _,τ,h=>h.elim
 |n+1,.refuse _,τ,h=>h.elim
theorem TC.aiU {P:Program}{N:Nat}{sh:TypeId→Option (Bool×Nat)}{f:FuncId}{fn:Func}{cd:Code}{args bs:List AV}{mv:Bool}{post:AV→List AV→Prop}(hsh:∀t x,sh t=some x→Sh P t=some x)
  (hf:P.funcs[f]?=some fn) (hb:fn.body=some cd) (hN:fn.ntmps=N) (hlen:args.length≤N)
  (h:TW P N cd (entry args bs) (endQ sh fn.results.toList bs.length mv post)):TC P f mv args bs post:=by
 intro W T β0 vs hT hnf c6 hbx qo
 refine calls_of_wp hf hb ?_
 have hvl:=G0 c6
 let c:Ctx:=⟨W,T,(cD 0 bs.length).map β0⟩
 have hlb:∀i,live (entry args bs) i→i<bs.length:=λi hi=>by
  obtain⟨av,hav⟩:=Option.ne_none_iff_exists'.1 (kD hi)
  rcases jB hav with ⟨j,e,_⟩ |⟨j,e,hj⟩
  ·cases e
  ·cases e;exact (ZC0.1 hj).1
 have ahX:Holds N c T β0 (entry args bs) { tmps:=vs.toArray++Array.replicate (fn.ntmps-vs.toArray.size) undef,defers:=[] } W:= {
  defs:=rfl
  size:=by simp;omega
  EB:=by show ((cD 0 bs.length).map β0).length≤1000;rw [ZG5,kI];exact qo.EB
  iJ:=λi av hi=>by
   rcases jB hi with ⟨j,e,hj⟩ |⟨j,e,_⟩
   ·cases e
    obtain⟨v,hv,hr⟩:=N9 c6 hj
    refine⟨v,?_,hr⟩
    have CX:i<vs.length:=(ZC0.1 hv).1
    rw [Array.getElem?_append_left (by simpa using CX)]
    simpa using hv
   ·cases e
  boxes:=λi av hi hz=>by
   rcases jB hi with ⟨j,e,_⟩ |⟨j,e,hj⟩
   ·cases e
   ·cases e;exact (qo.at_ i av hj).2.2.1
  apart:=λi hi=>by
   have bU:=hlb i hi
   obtain⟨_,h1,_⟩:=qo.at_ i _ (ZB1 bU)
   have cm:β0 i∈(cD 0 bs.length).map β0:=List.mem_map.2 ⟨i,fY.2 ⟨by omega,by omega⟩,rfl⟩
   exact⟨h1,λ_=>cm,λh=>absurd qo.EB (by omega),.inr cm⟩
  handed:=λi b hb hi=>by
   have bU:=hlb i hi
   have hb':((cD 0 bs.length).map β0)[i]?=some b:=hb
   rw [List.getElem?_map,jO _ _ _ bU] at hb'
   simpa using hb'
  inj:=λi j hi hj e=>qo.inj i j (hlb i hi) (hlb j hj) e
  named:=λr av hr i hi=>by
   rcases jB hr with ⟨j,rfl,hj⟩ |⟨j,rfl,hj⟩
   ·exact xa (hbx av (ZB6 hj) i hi)
   ·exact xa ((qo.at_ j av hj).2.2.2 i hi)
  typed:=hT
  old:=λb hb=>by
   show (T b).map BK.un=T b
   cases hk:T b with
   |none=>rfl
   |some k=>
    cases k with
    |fz ek n cs=>exact absurd hk (hnf.no b ek n cs)
    |_=>rfl
  frame:=λ_ _ _ _=>rfl
  gd:=ZB5 _
  os:=rfl
  tape:=rfl
  output:=rfl
  oV:=hnf.oV }
 refine Code.wp_mono ?_ (h c _ W ⟨T,_,ahX⟩)
 rintro e a w ⟨τ,hr,hq⟩
 have hd:a.defers=[]:=by obtain⟨_,_,hh⟩:=hr;exact hh.defs
 cases e with
 |normal=>
  obtain⟨v,hv,r,os,T',β',h1⟩:=tT (args:=args) hsh hnf qo.EB hr hq
  exact⟨hd,v,hv,v,r,os,T',β',rfl,h1⟩
 |ret=>
  obtain⟨v,hv,r,os,T',β',h1⟩:=tT (args:=args) hsh hnf qo.EB hr hq
  exact⟨hd,v,hv,v,r,os,T',β',rfl,h1⟩
 |_=>exact hq.elim
theorem Has.ofP (k:Nat) (ex wr pt:Nat→Bool) {l:List (FuncId×cn)}(hl:gN Tryz.prog l) {f:FuncId}{fn:Func}{cd:Code}{C:cn}(hf:Tryz.prog.funcs[f]?=some fn)
  (h : ∀ x y, C.pre x y → vcP Tryz.prog fn.ntmps (sem (mkE fn.ntmps l ex wr pt)) (endQ (mkE fn.ntmps l ex wr pt).sh fn.results.toList C.B.length C.mv (fun r os => ∃ z j, C.φ x y z ∧ r = C.r x y z ∧ os ++ List.replicate j .zz = C.o x y z ∧ (C.o x y z).length = C.B.length + C.nf)) k cd (entry (APs.avs C.A x) (APs.avs C.B y))) (hb : fn.body = some cd := by exact rfl) (hnm : fn.name ≠ "runtime.NumGoroutine" := by decide) (hlen : C.A.length ≤ fn.ntmps := by exact zqNlb rfl) : Has Tryz.prog f C := by
 refine⟨λx y hp=>?_,fn,hf,by rw [hb];rfl,hnm⟩
 have hx:(APs.avs C.A x).length≤fn.ntmps:=by rw [APs.fE];exact hlen
 have hy:(APs.avs C.B y).length=C.B.length:=APs.fE C.B y
 refine TC.Y4 (TC.aiU (P:=Tryz.prog) (N:=fn.ntmps) (sh:=(mkE fn.ntmps l ex wr pt).sh) (f:=f) (fn:=fn) (cd:=cd) (args:=APs.avs C.A x) (bs:=APs.avs C.B y) (mv:=C.mv) (post:=λr os=>∃z j,C.φ x y z∧r=C.r x y z∧os++List.replicate j .zz=C.o x y z∧(C.o x y z).length=C.B.length+C.nf) (Env.DO (oF (n:=fn.ntmps) (ex:=ex) (wr:=wr) (pt:=pt) hl)) hf hb rfl hx (by rw [hy];exact K7 mixed (oz (oF hl)) k cd _ (h x y hp))) ?_
 rintro r os ⟨z,j,h1,h2,h3,h4⟩
 exact⟨j,z,h1,h2,h3,by rw [h3];exact h4⟩
def xc:Nat→Code→Code
 |0,cd=>cd
 |n+1,.seq _ y=>xc n y
 |_+1,cd=>cd
def J9 (fn:Func):Code:=fn.body.getD .skip
theorem zb {l:List (FuncId×cn)}{n:Nat}{ex wr pt:Nat→Bool}(hl:gN Tryz.prog l) {k:Nat}{τ:St}{Q':o6}{cd:Code}{ι:Type}(J:ι→AO) (φ:ι→Prop) (rest:Code)
  (ht:∀x,φ x→vc Tryz.prog n (sem (mkE n l ex wr pt)) rest (DX.ap (J x)) Q')
  (hk:(∀x,φ x→TW Tryz.prog n rest (DX.ap (J x)) Q')→vcP Tryz.prog n (sem (mkE n l ex wr pt)) Q' k cd τ):vcP Tryz.prog n (sem (mkE n l ex wr pt)) Q' k cd τ:=
 hk λx hx=>gp mixed (oz (oF hl)) _ _ _ (ht x hx)
theorem joinTail {n:Nat}{τ:St}{Q':o6}{rest:Code}{ι:Type}{J:ι→AO}{φ:ι→Prop}(tail:∀x,φ x→TW Tryz.prog n rest (DX.ap (J x)) Q') (x:ι) (sg:List (Nat×Nat)) (h:φ x) (hs:EO sg τ τ [] (J x)):TW Tryz.prog n rest τ Q':=
 TW.agc [] (J x) sg hs (tail x h)
end GL
namespace GL
end GL
namespace GL
abbrev bf:=Int×Int×Int×Int×Int×Int×Int
abbrev fu:=Int×Int×Int×Int×Int×Int×Int×Int×Int×Int
abbrev Opr:=Int×ByteArray×ByteArray×Int×ByteArray
abbrev eU:=ByteArray×Int
abbrev ay:=List ByteArray×List Int×List Int×Int×List Pt×Int×List Pt×Bool
abbrev ay.rows (s:ay):List ByteArray:=s.1
abbrev ay.refs (s:ay):List Int:=s.2.1
abbrev ay.last (s:ay):List Int:=s.2.2.1
abbrev ay.cg (s:ay):Int:=s.2.2.2.1
abbrev ay.gone (s:ay):List Pt:=s.2.2.2.2.1
abbrev ay.bZ (s:ay):Int:=s.2.2.2.2.2.1
abbrev ay.dead (s:ay):List Pt:=s.2.2.2.2.2.2.1
abbrev ay.same (s:ay):Bool:=s.2.2.2.2.2.2.2
abbrev stB (b0 b1 b2 b3 b4:Nat):List SP:=[.xb b0 ab,.xb b1 ag,.xb b2 ag,.int,.xb b3 ae,.int,.xb b4 ae,.bool]
abbrev xv:List SP:=[.vz ab,.vz ag,.vz ag,.int,.vz ae,.int,.vz ae,.bool]
def kW (b0 b1 b2 b3 b4:Nat) (s:ay):List SV:=[.xs b0 1 0 s.rows.length,.xs b1 1 0 s.refs.length,.xs b2 1 0 s.last.length,.int s.cg,.xs b3 5 0 s.gone.length,.int s.bZ,.xs b4 5 0 s.dead.length,.q s.same]
def GF (s:ay):List AV:=[.rs ab s.rows,.rs ag s.refs,.rs ag s.last,.rs ae s.gone,.rs ae s.dead]
theorem uU {b0 b1 b2 b3 b4 m1 m2 m3 m4 m5:Nat}{tx kp:Int}{sm:Bool}{s:ay}(h1:m1=s.rows.length) (h2:m2=s.refs.length) (h3:m3=s.last.length) (h4:tx=s.cg) (h5:m4=s.gone.length) (h6:kp=s.bZ) (h7:m5=s.dead.length) (h8:sm=s.same):
  [SV.xs b0 1 0 m1,.xs b1 1 0 m2,.xs b2 1 0 m3,.int tx,.xs b3 5 0 m4,.int kp,.xs b4 5 0 m5,.q sm]=kW b0 b1 b2 b3 b4 s:=by
 subst h1 h2 h3 h4 h5 h6 h7 h8;rfl
theorem ahe {ro:List ByteArray}{rf la:List Int}{go de:List Pt}{s:ay}(h1:ro=s.rows) (h2:rf=s.refs) (h3:la=s.last) (h4:go=s.gone) (h5:de=s.dead):[AV.rs ab ro,.rs ag rf,.rs ag la,.rs ae go,.rs ae de]=GF s:=by
 subst h1 h2 h3 h4 h5;rfl
def whole (m1 m2 m3 m4 m5:Nat) (ro:List ByteArray) (rf la:List Int) (go de:List Pt):Prop:=m1=ro.length∧m2=rf.length∧m3=la.length∧m4=go.length∧m5=de.length
abbrev gP (x:Nat×Nat×Nat×Int×Nat×Int×Nat×Bool) (b:List ByteArray×List Int×List Int×List Pt×List Pt):ay:=(b.1,b.2.1,b.2.2.1,x.2.2.2.1,b.2.2.2.1,x.2.2.2.2.2.1,b.2.2.2.2,x.2.2.2.2.2.2.2)
abbrev stW (x:Nat×Nat×Nat×Int×Nat×Int×Nat×Bool) (b:List ByteArray×List Int×List Int×List Pt×List Pt):Prop:=whole x.1 x.2.1 x.2.2.1 x.2.2.2.2.1 x.2.2.2.2.2.2.1 b.1 b.2.1 b.2.2.1 b.2.2.2.1 b.2.2.2.2
def US {α:Type}(m:Nat) (l:List α):Prop:=m=l.length
abbrev xu (n:Int):Int:=IntKind.i64.wrap n
theorem nu {ek:EK}{l:List (EK.Ty ek)}{k:Nat}{x:EK.Ty ek}(h:k<l.length):nth ek (l.set k x) k=x:=by
 unfold nth
 rw [List.getElem?_set_self h]
theorem lx (k:Nat):agv 0 k=k:=rfl
theorem a7 {P:Prop}(h:P:=by first|exact⟨(),trivial⟩|(dsimp only [dC,lx];omega)|(simp only [Option.getD_some,Option.getD_none,dC,lx,List.length_append,List.length_cons,List.length_nil];omega)|(simp only [decide_eq_true_eq,decide_eq_false_iff_not,dC,lx,gK,imax,Int.toNat_natCast,Option.getD_some,Option.getD_none,List.length_append,List.length_cons,List.length_nil] at *;omega)):P:=h
theorem cf {P:Prop}(h:P:=by repeat' (first|exact trivial|apply And.intro|exact Nat.le_of_eq (Nat.zero_add _)|(simp only [Option.getD_some,Option.getD_none,dC,lx,List.length_append,List.length_cons,List.length_nil];omega))):P:=h
def zV (rf la:List Int) (k:Nat):List Int×List Int:=
 (rf.set k (xu (nth ag rf k-1)),if xu (nth ag rf k-1)=0 then la.set k 0 else la)
def yg (sp:List Int×List Int) (k:Int):Prop:=0≤k∧k<sp.1.length∧k<sp.2.length
def VH (sp:List Int×List Int) (k:Int):AV:=.a [.xs 0 1 0 sp.1.length,.xs 1 1 0 sp.2.length]
def abe (sp:List Int×List Int) (k:Int):List AV:=[.rs ag (zV sp.1 sp.2 k.toNat).1,.rs ag (zV sp.1 sp.2 k.toNat).2]
def JZ:cn where
 A:=[.a [.xb 0 ag,.xb 1 ag],.s .int]
 B:=[.r ag,.r ag]
 pre:=λx b=>US x.1.1 (b.1)∧US x.1.2 (b.2)∧yg ((b.1,b.2)) (x.2)
 r:=λx b _=>VH ((b.1,b.2)) (x.2)
 o:=λx b _=>abe ((b.1,b.2)) (x.2)
theorem adW:Has Tryz.prog 146 JZ:=by
 refine Has.fm zT (λd=>Nat.beq d 13) zF (l:=[]) trivial Tryz.func146 ?_
 rintro⟨⟨(akw:Nat),(akv:Nat)⟩,(k:Int)⟩ ⟨(dA:List Int),(eI:List Int)⟩ ⟨(ahL:akw=List.length dA),(ahK:akv=List.length eI),(hp:yg (dA,eI) k)⟩
 subst ahL ahK
 show vc _ _ _ _ (entry [.a [.xs 0 1 0 dA.length,.xs 1 1 0 eI.length],.int k] [.rs ag dA,.rs ag eI]) _
 obtain⟨h3,h4,h5⟩:=hp
 dsimp only at h4 h5
 have hk:k.toNat<dA.length:=by omega
 refine⟨Sq2,Sq5,ζ,[.s 5,.b 1002],Sq6,ζ,Sq1,Sq7,ζ,Sq2,Sq8,ζ,[.s 8,.b 1002],Sq9,ζ,Sq1,Sq10,ζ,[.s 9,.s 10],Sq11,ζ,⟨?_,?_⟩,[.s 11,.b 0],Sq12,ζ,?_,Sq12,Sq13,ζ,[.s 6,.s 7],Sq14,ζ,⟨?_,?_⟩,[.s 14,.s 13,.b 0],[.b 0],ζ,?_,⟨?_,?_⟩,?_,λw1=>⟨⟨?_,?_⟩,?_,?_⟩,λw2=>?_⟩
 all_goals first|refine aw ?_|refine ax ?_|exact a8|exact a7|(simp only [lx,ZC3];omega)|skip
 ·have h:nth ag (dA.set k.toNat _) k.toNat=0:=aJ w1
  rw [nu hk] at h
  refine⟨[],[],_,_,_,ζ,az,(),aa,?_,?_,ζ⟩
  ·rfl
  ·show [AV.rs ag (dA.set _ _),AV.rs ag (eI.set _ _)]=[AV.rs ag (dA.set _ _),AV.rs ag (if _ then _ else _)]
   simp only [lx] at h ⊢
   rw [if_pos h]
 ·have h:¬nth ag (dA.set k.toNat _) k.toNat=0:=aA w2
  rw [nu hk] at h
  refine⟨[],[],_,_,_,ζ,az,(),aa,?_,?_,ζ⟩
  ·rfl
  ·show [AV.rs ag (dA.set _ _),AV.rs ag eI]=[AV.rs ag (dA.set _ _),AV.rs ag (if _ then _ else _)]
   simp only [lx] at h ⊢
   rw [if_neg h]
def ay.n64 (s:ay):Prop:=s.rows.length=64∧s.refs.length=64∧s.last.length=64
def uC (s:ay) (k:Nat):Bool:=decide (nth ag (zV s.refs s.last k).1 k=0)
def gf (s:ay) (k:Nat):ay:=
 (bif uC s k then s.rows.set k ByteArray.empty else s.rows,(zV s.refs s.last k).1,(zV s.refs s.last k).2,s.cg,s.gone,s.bZ,s.dead,s.same)
theorem CZ (rf la:List Int) (k:Nat):(zV rf la k).1.length=rf.length∧(zV rf la k).2.length=la.length:=by
 unfold zV
 refine⟨ZC3,?_⟩
 show List.length (if _ then _ else _)=_
 split<;>simp
theorem xd (s:ay) (k:Nat):(gf s k).rows.length=s.rows.length∧(gf s k).refs.length=s.refs.length∧(gf s k).last.length=s.last.length:=by
 refine⟨?_,(CZ s.refs s.last k).1,(CZ s.refs s.last k).2⟩
 show List.length (bif _ then _ else _)=_
 cases uC s k<;>simp
def pW (S:ay) (k:Int):Prop:=S.n64∧0≤k∧k<64
def VD (S:ay) (k:Int):AV:=.a (kW 0 1 2 3 4 (gf S k.toNat))
def aba (S:ay) (k:Int):List AV:=GF (gf S k.toNat)
def qx:cn where
 A:=[.a (stB 0 1 2 3 4),.s .int]
 B:=[.r ab,.r ag,.r ag,.r ae,.r ae]
 pre:=λx b=>stW x.1 b∧pW (gP x.1 b) (x.2)
 r:=λx b _=>VD (gP x.1 b) (x.2)
 o:=λx b _=>aba (gP x.1 b) (x.2)
theorem IG:Has Tryz.prog 96 qx:=by
 refine Has.fm zT zF zF (l:=[(146,JZ)]) ⟨adW,aa⟩ Tryz.func96 ?_
 rintro⟨⟨(AU:Nat),(AT:Nat),(AS:Nat),(ao:Int),(AR:Nat),(aq:Int),(AQ:Nat),(ar:Bool)⟩,(k:Int)⟩ ⟨(aj:List ByteArray),(ak:List Int),(an:List Int),(ah:List Pt),(ai:List Pt)⟩ ⟨⟨(gC:AU=List.length aj),(gB:AT=List.length ak),(gA:AS=List.length an),(gz:AR=List.length ah),(gy:AQ=List.length ai)⟩,(hp:pW (aj,ak,an,ao,ah,aq,ai,ar) k)⟩
 subst gC gB gA gz gy
 show vc _ _ _ _ (entry [.a [.xs 0 1 0 aj.length,.xs 1 1 0 ak.length,.xs 2 1 0 an.length,.int ao,.xs 3 5 0 ah.length,.int aq,.xs 4 5 0 ai.length,.q ar],.int k] [.rs ab aj,.rs ag ak,.rs ag an,.rs ae ah,.rs ae ai]) _
 let g':=(aj,ak,an,ao,ah,aq,ai,ar)
 obtain⟨⟨l1,l2,l3⟩,h6,h7⟩:=hp
 dsimp only [ay.rows,ay.refs,ay.last] at l1 l2 l3
 have hk:k.toNat<ak.length:=by omega
 have hk2:k.toNat<(zV ak an k.toNat).1.length:=by rw [(CZ _ _ _).1];exact hk
 have hD:=xd g' k.toNat
 refine⟨⟨⟨tv3,tv2⟩,?_,?_,?_,?_,?_⟩,λx1 w2=>⟨⟨?_,?_⟩,?_,λw3=>⟨⟨?_,?_⟩,?_,?_⟩,λw4=>?_⟩⟩
 all_goals first|refine aw ?_|refine ax ?_|exact a8|(dsimp only [JZ,yg];omega)|exact a7|exact hk2|skip
 all_goals
  refine⟨[],[],_,_,_,ζ,az,(),aa,?_,?_,ζ⟩
  ·exact congrArg AV.a (uU (s:=gf g' k.toNat) hD.1.symm hD.2.1.symm hD.2.2.symm rfl rfl rfl rfl rfl)
  ·refine ahe (s:=gf g' k.toNat) ?_ rfl rfl rfl rfl
   show _=bif _ then _ else _
   first
    |rw [show uC g' k.toNat=true from w3];rfl
    |rw [show uC g' k.toNat=false from w4];rfl
def cM (s:ay) (p:Pt):ay:=
 bif au p then s else
 bif decide (p.2.1≤s.bZ) then (s.rows,s.refs,s.last,s.cg,s.gone,s.bZ,s.dead++[p],s.same) else
 bif decide (p.2.1<s.cg) then (s.rows,s.refs,s.last,s.cg,s.gone++[p],s.bZ,s.dead,s.same) else gf s p.1.toNat
theorem yO {s:ay}{p:Pt}(h:au p=true):cM s p=s:=by unfold cM;rw [h];rfl
theorem yR {s:ay}{p:Pt}(h:au p=false) (h1:decide (p.2.1≤s.bZ)=true):cM s p=(s.rows,s.refs,s.last,s.cg,s.gone,s.bZ,s.dead++[p],s.same):=by unfold cM;rw [h,h1];rfl
theorem yP {s:ay}{p:Pt}(h:au p=false) (h1:decide (p.2.1≤s.bZ)=false) (h2:decide (p.2.1<s.cg)=true):cM s p=(s.rows,s.refs,s.last,s.cg,s.gone++[p],s.bZ,s.dead,s.same):=by unfold cM;rw [h,h1,h2];rfl
theorem yQ {s:ay}{p:Pt}(h:au p=false) (h1:decide (p.2.1≤s.bZ)=false) (h2:decide (p.2.1<s.cg)=false):cM s p=gf s p.1.toNat:=by unfold cM;rw [h,h1,h2];rfl
def dH (S:ay) (p:Pt):Prop:=S.n64∧0≤p.1∧p.1<64∧S.gone.length≤1048000∧S.dead.length≤1048000
def VC (S:ay) (p:Pt):AV:=.a (kW 0 1 2 5 6 (cM S p))
def jR (S:ay) (p:Pt):List AV:=[.rs ab (cM S p).rows,.rs ag (cM S p).refs,.rs ag (cM S p).last,.zz,.zz,.rs ae (cM S p).gone,.rs ae (cM S p).dead]
def cJ:cn where
 A:=[.a (stB 0 1 2 3 4),.a [.int,.int,.int,.int,.int]]
 B:=[.r ab,.r ag,.r ag,.r ae,.r ae]
 pre:=λx b=>stW x.1 b∧dH (gP x.1 b) (x.2)
 r:=λx b _=>VC (gP x.1 b) (x.2)
 o:=λx b _=>jR (gP x.1 b) (x.2)
 nf:=2
 mv:=true
theorem gx:Has Tryz.prog 95 cJ:=by
 refine Has.fm zT zF zF (l:=[(81,cx),(96,qx)]) ⟨cz,IG,aa⟩ Tryz.func95 ?_
 rintro⟨⟨(AU:Nat),(AT:Nat),(AS:Nat),(ao:Int),(AR:Nat),(aq:Int),(AQ:Nat),(ar:Bool)⟩,⟨(p1:Int),(p2:Int),(p3:Int),(p4:Int),(p5:Int)⟩⟩ ⟨(aj:List ByteArray),(ak:List Int),(an:List Int),(ah:List Pt),(ai:List Pt)⟩ ⟨⟨(gC:AU=List.length aj),(gB:AT=List.length ak),(gA:AS=List.length an),(gz:AR=List.length ah),(gy:AQ=List.length ai)⟩,(hp:dH (aj,ak,an,ao,ah,aq,ai,ar) (p1,p2,p3,p4,p5))⟩
 subst gC gB gA gz gy
 show vc _ _ _ _ (entry [.a [.xs 0 1 0 aj.length,.xs 1 1 0 ak.length,.xs 2 1 0 an.length,.int ao,.xs 3 5 0 ah.length,.int aq,.xs 4 5 0 ai.length,.q ar],.a [.int p1,.int p2,.int p3,.int p4,.int p5]] [.rs ab aj,.rs ag ak,.rs ag an,.rs ae ah,.rs ae ai]) _
 let g':=(aj,ak,an,ao,ah,aq,ai,ar)
 let A':=(p1,p2,p3,p4,p5)
 obtain⟨⟨l1,l2,l3⟩,(h6:0≤p1),(h7:p1<64),h8,h9⟩:=hp
 dsimp only [ay.rows,ay.refs,ay.last,ay.gone,ay.dead] at l1 l2 l3 h8 h9
 refine⟨⟨⟨tv6,aa⟩,aa⟩,λx1 w2=>⟨λw3=>?_,λw4=>⟨λw5=>⟨aa,⟨⟨?_,?_⟩,?_,?_⟩,?_⟩,λw6=>⟨λw7=>⟨aa,⟨⟨?_,?_⟩,?_,?_⟩,?_⟩,λw8=>⟨⟨⟨tv9,tv2⟩,⟨?_,?_,?_,?_,?_⟩,⟨?_,?_,?_⟩,?_,?_⟩,λx9 dy=>?_⟩⟩⟩⟩⟩
 all_goals first|refine aw ?_|refine ax ?_|exact a8|(dsimp only [qx,pW,gP];omega)|exact a7|(simp only [dC,ZA1,ZA4];omega)|exact l1|exact l2|exact l3|skip
 ·refine⟨[3,4],[],_,_,_,ζ,az,(),aa,?_,?_,ζ⟩
  ·show _=AV.a (kW 0 1 2 5 6 (cM g' A'));rw [yO w3];rfl
  ·show _=jR g' A';unfold jR;rw [yO w3];rfl
 ·refine⟨[3,1000000023],[],_,_,_,ζ,az,(),aa,?_,?_,ζ⟩
  ·show _=AV.a (kW 0 1 2 5 6 (cM g' A'));rw [yR w4 w5]
   exact congrArg AV.a (uU rfl rfl rfl rfl rfl rfl ZA0.symm rfl)
  ·show _=jR g' A';unfold jR;rw [yR w4 w5];rfl
 ·refine⟨[1000000035,4],[],_,_,_,ζ,az,(),aa,?_,?_,ζ⟩
  ·show _=AV.a (kW 0 1 2 5 6 (cM g' A'));rw [yP w4 w6 w7]
   exact congrArg AV.a (uU rfl rfl rfl rfl ZA0.symm rfl rfl rfl)
  ·show _=jR g' A';unfold jR;rw [yP w4 w6 w7];rfl
 ·refine⟨[3,4],[],_,_,_,ζ,az,(),aa,?_,?_,ζ⟩
  ·show _=AV.a (kW 0 1 2 5 6 (cM g' A'));rw [yQ w4 w6 w8];rfl
  ·show _=jR g' A';unfold jR;rw [yQ w4 w6 w8];rfl
end GL
namespace GL
def sd (n:Int):Prop:=True
def aaN (n:Int):AV:=.q (ik n 8 63)
def ac5 (n:Int):List AV:=[]
def oY:cn where
 A:=[.s .int]
 B:=[]
 pre:=λx b=>sd x
 r:=λx b _=>aaN x
 o:=λx b _=>ac5 x
theorem zI:Has Tryz.prog 120 oY:=by
 refine Has.fm zT zF zF (l:=[(35,hZ)]) ⟨iA,aa⟩ Tryz.func120 ?_
 rintro (n:Int) _ (hp:sd n)
 show vc _ _ _ _ (entry [.int n] []) _
 refine⟨⟨tv4,aa⟩,λx1 w2=>?_⟩
 refine⟨[],[],_,_,_,ζ,az,(),aa,?_,?_,ζ⟩
 ·rfl
 ·rfl
def vd (s:ByteArray):Prop:=True
def Q0 (s:ByteArray):AV:=.q (ik s.size 1 128)
def V2 (s:ByteArray):List AV:=[]
def DB:cn where
 A:=[.s .str]
 B:=[]
 pre:=λx b=>vd x
 r:=λx b _=>Q0 x
 o:=λx b _=>V2 x
theorem abI:Has Tryz.prog 148 DB:=by
 refine Has.fm zT zF zF (l:=[(35,hZ)]) ⟨iA,aa⟩ Tryz.func148 ?_
 rintro (s:ByteArray) _ (hp:vd s)
 show vc _ _ _ _ (entry [.str s] []) _
 refine⟨⟨tv4,aa⟩,λx1 w2=>?_⟩
 refine⟨[],[],_,_,_,ζ,az,(),aa,?_,?_,ζ⟩
 ·rfl
 ·rfl
def aZ (p:Pt):Bool:=au p||(ik p.1 8 63&&ik p.2.1 1 900&&ik p.2.2.1 1 128&&ik p.2.2.2.1 0 99460728&&ik p.2.2.2.2 0 2)
def dZ (p:Pt):Prop:=True
def aaQ (p:Pt):AV:=.q (aZ p)
def ade (p:Pt):List AV:=[]
def cX:cn where
 A:=[.a [.int,.int,.int,.int,.int]]
 B:=[]
 pre:=λx b=>dZ x
 r:=λx b _=>aaQ x
 o:=λx b _=>ade x
theorem iB:Has Tryz.prog 80 cX:=by
 refine Has.fm zT zF zF (l:=[(81,cx),(120,oY),(35,hZ)]) ⟨cz,zI,iA,aa⟩ Tryz.func80 ?_
 rintro⟨(p1:Int),(p2:Int),(p3:Int),(p4:Int),(p5:Int)⟩ _ (hp:dZ (p1,p2,p3,p4,p5))
 show vc _ _ _ _ (entry [.a [.int p1,.int p2,.int p3,.int p4,.int p5]] []) _
 refine⟨⟨⟨tv6,aa⟩,aa⟩,λx1 w2=>⟨λw3=>?_,λw4=>⟨⟨tv2,aa⟩,λx5 w6=>⟨aa,λw7=>⟨⟨tv4,aa⟩,λx8 w9=>⟨aa,λdy=>⟨⟨tv4,aa⟩,λkz dJ=>⟨aa,λiU=>⟨⟨tv4,aa⟩,λx14 qK=>⟨aa,λkg=>⟨⟨tv4,aa⟩,λx17 rS=>?_⟩,λoL=>?_⟩⟩,λuI=>?_⟩⟩,λA4=>?_⟩⟩,λA3=>?_⟩⟩⟩⟩
 all_goals
  refine⟨[],[],_,_,_,ζ,az,(),aa,?_,?_,ζ⟩
  ·show AV.q _=AV.q _
   congr 1
   simp_all [aZ]
  ·rfl
def YM (p:Int×Int) (c:Int):Int×Int:=((p.1+c+1) % 9973,(p.2+(p.1+c+1) % 9973) % 9973)
def rZ (s:ByteArray):Nat→Int×Int
 |0=>(1,0)
 |k+1=>YM (rZ s k) (bL s k)
def qN (s:ByteArray):Int:=(rZ s s.size).1*9973+(rZ s s.size).2
theorem zf (s:ByteArray):∀k,0≤(rZ s k).1∧(rZ s k).1≤9972∧0≤(rZ s k).2∧(rZ s k).2≤9972
 |0=>by simp [rZ]
 |k+1=>by
  have:=zf s k
  simp only [rZ,YM]
  omega
def jQ (s:ByteArray):Prop:=(s.size:Int)≤1000000000000
def aaP (s:ByteArray):AV:=.int (qN s)
def adb (s:ByteArray):List AV:=[]
def AE:cn where
 A:=[.s .str]
 B:=[]
 pre:=λx b=>jQ x
 r:=λx b _=>aaP x
 o:=λx b _=>adb x
theorem ZV:Has Tryz.prog 149 AE:=by
 refine Has.fm zT zF zF (l:=[]) trivial Tryz.func149 ?_
 rintro (s:ByteArray) _ (hp:jQ s)
 show vc _ _ _ _ (entry [.str s] []) _
 unfold jQ at hp
 refine cN (l:=[]) (ex:=zT) (wr:=zF) (pt:=zF) aa [.s 0] (λk:Nat=>[(.s 3,.int (rZ s k).1),(.s 4,.int (rZ s k).2),(.s 5,.int k)]) (λk=>k≤s.size) (λk=>s.size-k) 0 [] (ZA7 _) ⟨⟨rfl,rfl,rfl,aa⟩,rfl,aa⟩ ?_
 intro k hk
 obtain⟨b1,b2,b3,b4⟩:=zf s k
 have hb:=xf s k
 refine⟨λw1=>⟨⟨?_,?_⟩,⟨⟨?_,?_⟩,⟨⟨?_,?_⟩,⟨⟨?_,?_⟩,⟨⟨?_,?_⟩,⟨⟨?_,?_⟩,⟨⟨?_,?_⟩,⟨⟨?_,?_⟩,?_⟩⟩⟩⟩⟩⟩⟩⟩,λw2=>⟨⟨?_,?_⟩,⟨⟨?_,?_⟩,?_⟩⟩⟩
 all_goals first|refine aw ?_|refine ax ?_|exact a8|exact a7|skip
 ·refine⟨(k+1),[],?_,?_,?_⟩
  rotate_right
  ·repeat' (first|exact trivial|rfl|exact rfl|exact fP ZA0.symm|exact oP|apply And.intro)
  all_goals first|refine aw ?_|refine ax ?_|exact a8|exact a7|skip
 ·have h2:¬(k:Int)<(s.size:Int):=aA w2
  have hk':k=s.size:=by omega
  subst hk'
  refine⟨[],[],_,_,_,ζ,az,(),aa,?_,?_,ζ⟩
  ·rfl
  ·rfl
def iX (p:Pt) (s:ByteArray):Bool:=aZ p&&(!(au p)&&(decide (p.2.2.1=s.size)&&decide (p.2.2.2.1=qN s)))
def nP (p:Pt) (s:ByteArray):Prop:=(s.size:Int)≤1000000000000
def Q1 (p:Pt) (s:ByteArray):AV:=.q (iX p s)
def WK (p:Pt) (s:ByteArray):List AV:=[]
def sN:cn where
 A:=[.a [.int,.int,.int,.int,.int],.s .str]
 B:=[]
 pre:=λx b=>nP (x.1) (x.2)
 r:=λx b _=>Q1 (x.1) (x.2)
 o:=λx b _=>WK (x.1) (x.2)
theorem MJ:Has Tryz.prog 108 sN:=by
 refine Has.fm zT zF zF (l:=[(80,cX),(81,cx),(149,AE)]) ⟨iB,cz,ZV,aa⟩ Tryz.func108 ?_
 rintro⟨⟨(p1:Int),(p2:Int),(p3:Int),(p4:Int),(p5:Int)⟩,(s:ByteArray)⟩ _ (hp:nP (p1,p2,p3,p4,p5) s)
 show vc _ _ _ _ (entry [.a [.int p1,.int p2,.int p3,.int p4,.int p5],.str s] []) _
 unfold nP at hp
 refine⟨[.s 2,.b 1002],Sq5,ζ,Sq5,Sq6,ζ,⟨⟨tv6,aa⟩,aa⟩,?_,λx1 w2=>⟨Sq6,Sq7,ζ,aa,λw3=>⟨[.s 7,.s 2,.b 1002],Sq8,ζ,[.s 7,.s 8],Sq9,ζ,⟨⟨tv6,aa⟩,aa⟩,?_,λx4 w5=>⟨[.s 7,.s 9],Sq10,ζ,[.s 7,.s 10],Sq11,ζ,Sq11,Sq12,ζ,aa,λw6=>⟨[.s 12,.s 2],Sq13,ζ,[.s 12,.s 13,.b 1002],Sq14,ζ,[.s 12,.s 1],Sq15,ζ,[.s 12,.s 15],Sq16,ζ,[.s 12,.s 14,.s 16],Sq17,ζ,[.s 12,.s 17],Sq18,ζ,Sq18,Sq19,ζ,aa,λw7=>⟨[.s 19,.s 2],Sq20,ζ,[.s 19,.s 20,.b 1002],Sq21,ζ,[.s 19,.s 1],Sq22,ζ,[.s 19,.s 22],Sq23,ζ,⟨tv2,?_⟩,?_,λx8 w9=>⟨[.s 19,.s 21,.s 23],Sq24,ζ,[.s 19,.s 24],Sq25,ζ,Sq25,Sq4,ζ,?_⟩⟩,λdy=>⟨Sq19,Sq20,ζ,Sq19,Sq21,ζ,Sq19,Sq22,ζ,Sq19,Sq23,ζ,Sq19,Sq24,ζ,[.s 19,.s 24],Sq25,ζ,Sq25,Sq4,ζ,?_⟩⟩,λkA=>⟨Sq12,Sq13,ζ,Sq12,Sq14,ζ,Sq12,Sq15,ζ,Sq12,Sq16,ζ,Sq12,Sq17,ζ,[.s 12,.s 17],Sq18,ζ,Sq18,Sq19,ζ,Sq19,Sq20,ζ,Sq19,Sq21,ζ,Sq19,Sq22,ζ,Sq19,Sq23,ζ,Sq19,Sq24,ζ,[.s 19,.s 24],Sq25,ζ,Sq25,Sq4,ζ,?_⟩⟩⟩,λdJ=>⟨Sq7,Sq8,ζ,Sq7,Sq9,ζ,Sq7,Sq10,ζ,[.s 7,.s 10],Sq11,ζ,Sq11,Sq12,ζ,Sq12,Sq13,ζ,Sq12,Sq14,ζ,Sq12,Sq15,ζ,Sq12,Sq16,ζ,Sq12,Sq17,ζ,[.s 12,.s 17],Sq18,ζ,Sq18,Sq19,ζ,Sq19,Sq20,ζ,Sq19,Sq21,ζ,Sq19,Sq22,ζ,Sq19,Sq23,ζ,Sq19,Sq24,ζ,[.s 19,.s 24],Sq25,ζ,Sq25,Sq4,ζ,?_⟩⟩⟩
 all_goals first|refine aw ?_|refine ax ?_|exact a8|(dsimp only [cX,dZ,AE,jQ];omega)|exact a7|(show jQ _;unfold jQ;omega)|skip
 all_goals
  refine⟨[],[],_,_,_,ζ,az,(),aa,?_,?_,ζ⟩
  ·show AV.q _=AV.q _
   congr 1
   simp_all [iX]
  ·rfl
def bM:Pt:=(0,0,0,0,0)
def gv (at_ EI level:Int) (s:ByteArray):Pt×Bool:=
 bif ik s.size 1 128&&aZ (at_,EI,s.size,qN s,level) then ((at_,EI,s.size,qN s,level),true) else (bM,false)
def ptA (p:Pt):A0:=.a (EK.AX ae p)
theorem BV {a b l:Int}{s:ByteArray}(h1:ik s.size 1 128=true) (h2:aZ (a,b,s.size,qN s,l)=true):gv a b l s=((a,b,(s.size:Int),qN s,l),true):=by unfold gv;rw [h1,h2];rfl
theorem BX {a b l:Int}{s:ByteArray}(h1:ik s.size 1 128=false):gv a b l s=(bM,false):=by unfold gv;rw [h1];rfl
theorem BW {a b l:Int}{s:ByteArray}(h2:aZ (a,b,s.size,qN s,l)=false):gv a b l s=(bM,false):=by unfold gv;rw [h2,ZD7];rfl
theorem xm {b:Bool}(h:(!b)=true):b=false:=by simpa using h
theorem cL {b:Bool}(h:(!b)=false):b=true:=by simpa using h
def mM (a:Int) (b:Int) (l:Int) (s:ByteArray):Prop:=(s.size:Int)≤1000000000000
def aaR (a:Int) (b:Int) (l:Int) (s:ByteArray):AV:=.t [ptA (gv a b l s).1,.s (.q (gv a b l s).2)]
def adf (a:Int) (b:Int) (l:Int) (s:ByteArray):List AV:=[]
def o0:cn where
 A:=[.s .int,.s .int,.s .int,.s .str]
 B:=[]
 pre:=λx b=>mM (x.1) (x.2.1) (x.2.2.1) (x.2.2.2)
 r:=λx b _=>aaR (x.1) (x.2.1) (x.2.2.1) (x.2.2.2)
 o:=λx b _=>adf (x.1) (x.2.1) (x.2.2.1) (x.2.2.2)
theorem FJ:Has Tryz.prog 98 o0:=by
 refine Has.fm zT zF zF (l:=[(148,DB),(80,cX),(149,AE)]) ⟨abI,iB,ZV,aa⟩ Tryz.func98 ?_
 rintro⟨(a:Int),(b:Int),(l:Int),(s:ByteArray)⟩ _ (hp:mM a b l s)
 show vc _ _ _ _ (entry [.int a,.int b,.int l,.str s] []) _
 unfold mM at hp
 refine⟨⟨tv2,aa⟩,λx1 w2=>⟨λw3=>?_,λw4=>⟨⟨tv2,?_⟩,λx5 w6=>⟨⟨⟨tv6,aa⟩,aa⟩,λx7 w8=>⟨λw9=>?_,λdy=>?_⟩⟩⟩⟩⟩
 all_goals first|refine aw ?_|refine ax ?_|exact a8|(dsimp only [DB,vd,cX,dZ,AE,jQ];omega)|exact a7|(show jQ _;unfold jQ;omega)|skip
 ·refine⟨[],[],_,_,_,ζ,az,(),aa,?_,?_,ζ⟩
  ·show _=AV.t [ptA (gv a b l s).1,.s (.q (gv a b l s).2)]
   rw [BX (xm w3)];rfl
  ·rfl
 ·refine⟨[],[],_,_,_,ζ,az,(),aa,?_,?_,ζ⟩
  ·show _=AV.t [ptA (gv a b l s).1,.s (.q (gv a b l s).2)]
   rw [BW (xm w9)];rfl
  ·rfl
 ·refine⟨[],[],_,_,_,ζ,az,(),aa,?_,?_,ζ⟩
  ·show _=AV.t [ptA (gv a b l s).1,.s (.q (gv a b l s).2)]
   rw [BV (cL w4) (cL dy)];rfl
  ·rfl
end GL
namespace GL
theorem sz0:(⟨#[]⟩:ByteArray).size=0:=rfl
theorem sz1 (a:UInt8):(⟨#[a]⟩:ByteArray).size=1:=rfl
def dec (k:Nat):ByteArray:=if k<10 then fa [48+(k:Int)] else dec (k / 10)++fa [48+((k % 10:Nat):Int)]
 termination_by k
 decreasing_by omega
def bX (n:Int):ByteArray:=dec n.toNat
theorem dec_lt {k:Nat}(h:k<10):dec k=fa [48+(k:Int)]:=by rw [dec,if_pos h]
theorem X0 {k:Nat}(h:¬k<10):dec k=dec (k / 10)++fa [48+((k % 10:Nat):Int)]:=by rw [dec,if_neg h]
theorem sX (n:Int):(fa [n]).size=1:=by rw [fa,nC];rfl
theorem JM:∀(m k:Nat),k<10 ^ (m+1)→(dec k).size≤m+1
 |0,k,h=>by rw [dec_lt (by omega),sX];omega
 |m+1,k,h=>by
  by_cases hk:k<10
  ·rw [dec_lt hk,sX];omega
  ·rw [X0 hk,ZB2,sX]
   have:=JM m (k / 10) (by rw [Nat.pow_succ] at h;omega)
   omega
theorem db {n:Int}(h:n≤999999999999):(bX n).size≤12:=JM 11 n.toNat (by show _<1000000000000;omega)
theorem agk {n:Int}(h0:0≤n) (h:n<10):bX n=fa [48+n]:=by
 unfold bX
 rw [dec_lt (by omega),show ((n.toNat:Nat):Int)=n by omega]
theorem agl {n:Int}(h0:0≤n) (h:¬n<10):bX n=bX (n / 10)++fa [48+n % 10]:=by
 unfold bX
 rw [X0 (by omega),show ((n.toNat % 10:Nat):Int)=n % 10 by omega,show n.toNat / 10=(n / 10).toNat by omega]
def mK (n:Int):Prop:=0≤n∧n≤999999999999
def aaM (n:Int):AV:=.str (bX n)
def ac4 (n:Int):List AV:=[]
def j5:cn where
 A:=[.s .int]
 B:=[]
 pre:=λx b=>mK x
 r:=λx b _=>aaM x
 o:=λx b _=>ac4 x
def adA (n:Int):Nat:=n.toNat
theorem wR:Has Tryz.prog 161 j5:=by
 refine Has.akC (C:=j5) zT zF zF (λx b=>adA x) (l:=[]) trivial Tryz.func161 ?_
 rintro (n:Int) _ (hp:mK n) ama
 show vc _ _ _ _ (entry [.int n] []) _
 obtain⟨h1,h2⟩:=hp
 have hs:=db (n:=n / 10) (by omega)
 refine⟨λw1=>?_,λw2=>⟨λw3=>⟨⟨?_,?_⟩,⟨tv2,⟨?_,?_⟩,?_⟩,λx4 w5=>⟨?_,?_⟩⟩,λw6=>⟨λw7=>⟨⟨?_,?_⟩,⟨?_,?_⟩,aa,⟨?_,?_⟩,?_⟩,λw8=>⟨Sq0,Sq18,ζ,Sq18,Sq19,ζ,⟨?_,?_,?_⟩,Sq19,Sq20,ζ,⟨tv2,⟨?_,?_⟩,?_⟩,?_,λx9 dy=>⟨Sq0,Sq21,ζ,Sq21,Sq22,ζ,⟨?_,?_⟩,Sq22,Sq23,ζ,⟨?_,?_⟩,Sq23,Sq24,ζ,⟨?_,?_⟩,[.s 24,.b 1025],[.s 25,.b 1025],ζ,aa,[.s 25,.b 1025],Sq26,ζ,⟨?_,?_⟩,[.s 20,.s 26],Sq27,ζ,?_,Sq27,Sq2,ζ,?_⟩⟩⟩⟩⟩
 all_goals first|(exfalso;simp only [decide_eq_true_eq,decide_eq_false_iff_not] at *;omega)|refine aw ?_|refine ax ?_|exact a8|exact a7|(simp only [dC,sX,imax];omega)|(show (n / 10).toNat<n.toNat;have:=aA w8;omega)|skip
 ·refine⟨[],[],_,_,_,ζ,az,(),aa,?_,?_,ζ⟩
  ·show _=AV.str (bX n)
   rw [agk h1 (aJ w7)];rfl
  ·rfl
 ·refine⟨[],[],_,_,_,ζ,az,(),aa,?_,?_,ζ⟩
  ·show _=AV.str (bX n)
   rw [agl h1 (aA w8)];rfl
  ·rfl
def bc (p:Pt):ByteArray:=
 bif aZ p then (bif au p then ⟨#[45]⟩ else
  bX p.1++⟨#[46]⟩++bX p.2.1++⟨#[46]⟩++bX p.2.2.1++⟨#[46]⟩++bX p.2.2.2.1++⟨#[46]⟩++bX p.2.2.2.2) else ⟨#[]⟩
theorem pT {p:Pt}(h:aZ p=true):(0≤p.1∧p.1≤63)∧(0≤p.2.1∧p.2.1≤900)∧(0≤p.2.2.1∧p.2.2.1≤128)∧(0≤p.2.2.2.1∧p.2.2.2.1≤99460728)∧0≤p.2.2.2.2∧p.2.2.2.2≤2:=by
 unfold aZ au at h
 simp only [Bool.or_eq_true,ZA9,decide_eq_true_eq,cC] at h
 omega
theorem gu (p:Pt):(bc p).size≤64:=by
 unfold bc
 cases h:aZ p with
 |false=>exact ZA7 _
 |true=>
  obtain⟨h1,h2,h3,h4,h5⟩:=pT h
  cases au p with
  |true=>show (1:Nat)≤64;omega
  |false=>
   simp only [cond_true,cond_false,ZB2,sz1]
   have a1:=db (n:=p.1) (by omega)
   have a2:=db (n:=p.2.1) (by omega)
   have a3:=db (n:=p.2.2.1) (by omega)
   have a4:=db (n:=p.2.2.2.1) (by omega)
   have a5:=db (n:=p.2.2.2.2) (by omega)
   omega
def qd (p:Pt):Prop:=True
def VK (p:Pt):AV:=.str (bc p)
def abo (p:Pt):List AV:=[]
def qC:cn where
 A:=[.a [.int,.int,.int,.int,.int]]
 B:=[]
 pre:=λx b=>qd x
 r:=λx b _=>VK x
 o:=λx b _=>abo x
theorem IM:Has Tryz.prog 162 qC:=by
 refine Has.fm zT zF zF (l:=[(80,cX),(81,cx),(161,j5)]) ⟨iB,cz,wR,aa⟩ Tryz.func162 ?_
 rintro⟨(p1:Int),(p2:Int),(p3:Int),(p4:Int),(p5:Int)⟩ _ (hp:qd (p1,p2,p3,p4,p5))
 show vc _ _ _ _ (entry [.a [.int p1,.int p2,.int p3,.int p4,.int p5]] []) _
 by_cases cG:aZ (p1,p2,p3,p4,p5)=true
 ·obtain⟨⟨b1,b2⟩,⟨b3,b4⟩,⟨b5,b6⟩,⟨b7,b8⟩,b9,b10⟩:=pT cG
  dsimp only at b1 b2 b3 b4 b5 b6 b7 b8 b9 b10
  have a1:=db (n:=p1) (by omega)
  have a2:=db (n:=p2) (by omega)
  have a3:=db (n:=p3) (by omega)
  have a4:=db (n:=p4) (by omega)
  have a5:=db (n:=p5) (by omega)
  refine⟨⟨⟨tv6,aa⟩,aa⟩,λx1 w2=>⟨λw3=>?_,λw4=>⟨⟨⟨tv6,aa⟩,aa⟩,λx5 w6=>⟨λw7=>?_,λw8=>⟨Sq1,Sq8,ζ,[.s 8,.b 1001],Sq9,ζ,Sq9,Sq10,ζ,⟨tv2,?_,?_⟩,?_,λx9 dy=>⟨Sq10,Sq11,ζ,?_,Sq1,Sq12,ζ,[.s 12,.b 1001],Sq13,ζ,Sq13,Sq14,ζ,⟨tv2,?_,?_⟩,?_,λkz dJ=>⟨[.s 11,.s 14],Sq15,ζ,?_,Sq15,Sq16,ζ,?_,Sq1,Sq17,ζ,[.s 17,.b 1001],Sq18,ζ,Sq18,Sq19,ζ,⟨tv2,?_,?_⟩,?_,λrW gO=>⟨[.s 16,.s 19],Sq20,ζ,?_,Sq20,Sq21,ζ,?_,Sq1,Sq22,ζ,[.s 22,.b 1001],Sq23,ζ,Sq23,Sq24,ζ,⟨tv2,?_,?_⟩,?_,λky kg=>⟨[.s 21,.s 24],Sq25,ζ,?_,Sq25,Sq26,ζ,?_,Sq1,Sq27,ζ,[.s 27,.b 1001],Sq28,ζ,Sq28,Sq29,ζ,⟨tv2,?_,?_⟩,?_,λx17 rS=>⟨[.s 26,.s 29],Sq30,ζ,?_,Sq30,Sq2,ζ,?_⟩⟩⟩⟩⟩⟩⟩⟩⟩⟩
  all_goals first|refine aw ?_|refine ax ?_|exact a8|(dsimp only [cX,dZ,j5,mK];omega)|exact a7|(simp only [ZB2,sz1,imax];omega)|skip
  ·rw [cG] at w3;cases w3
  ·refine⟨[],[],_,_,_,ζ,az,(),aa,?_,?_,ζ⟩
   ·show _=AV.str (bc (p1,p2,p3,p4,p5))
    unfold bc;rw [cG,w7];rfl
   ·rfl
  ·refine⟨[],[],_,_,_,ζ,az,(),aa,?_,?_,ζ⟩
   ·show _=AV.str (bc (p1,p2,p3,p4,p5))
    unfold bc;rw [cG,w8];rfl
   ·rfl
 ·have uy:aZ (p1,p2,p3,p4,p5)=false:=by simpa using cG
  refine⟨⟨tv6,aa⟩,aa⟩ |> λh=>⟨h,λx1 w2=>⟨λw3=>?_,λw4=>?_⟩⟩
  ·refine⟨[],[],_,_,_,ζ,az,(),aa,?_,?_,ζ⟩
   ·show _=AV.str (bc (p1,p2,p3,p4,p5))
    unfold bc;rw [uy];rfl
   ·rfl
  ·rw [uy] at w4;cases w4
