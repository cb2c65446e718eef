/- FnTreeOk returns true for every code (its row lists package variables, tied by the card): part 37. -/
import Derived.Shelf.LaysC
import Derived.Shelf.LaysM
import Derived.Shelf.Strconv.Atoi
import Derived.Shelf.Strconv.ErrVar
import Derived.Shelf.Strconv.Itoa3
import Derived.Shelf.Strings.OnBuilder
import Derived.Shelf.Strings.Split
import Derived.Shelf.Strings.SplitShaped
import Derived.Sort.Grow
import Derived.Test.YtbfgjadbfjkcdaaGreatDoorProg
import Derived.Test.YtbfgjadbfjkcdaaGreatDoorPak
import Derived.Test.YtbfgjadbfjkcdaaGreatDoorPal
set_option maxHeartbeats 20000000
set_option linter.all false
namespace Go.Proofs.YtbfgjadbfjkcdaaGreatDoor
namespace GL
def eJ:TI:=⟨false,1,.other,[.pointer none],[],[]⟩
theorem mx:TIok Tryz.prog 15 eJ:=⟨by show Sh Tryz.prog 15=some (false,1);kernel_rfl,by show zeroOf Tryz.prog 15=some [.pointer none];kernel_rfl,by simp [eJ],.inl rfl,trivial⟩
def fQ:TI:=⟨false,1,.other,[.pointer none],[],[]⟩
theorem qp:TIok Tryz.prog 16 fQ:=⟨by show Sh Tryz.prog 16=some (false,1);kernel_rfl,by show zeroOf Tryz.prog 16=some [.pointer none];kernel_rfl,by simp [fQ],.inl rfl,trivial⟩
def rJ:TI:=⟨false,1,.other,[.pointer none],[],[]⟩
theorem LA:TIok Tryz.prog 17 rJ:=⟨by show Sh Tryz.prog 17=some (false,1);kernel_rfl,by show zeroOf Tryz.prog 17=some [.pointer none];kernel_rfl,by simp [rJ],.inl rfl,trivial⟩
def pE:TI:=⟨false,1,.other,[.pointer none],[],[]⟩
theorem HZ:TIok Tryz.prog 40 pE:=⟨by show Sh Tryz.prog 40=some (false,1);kernel_rfl,by show zeroOf Tryz.prog 40=some [.pointer none];kernel_rfl,by simp [pE],.inl rfl,trivial⟩
def oD:TI:=⟨false,1,.other,[.pointer none],[],[]⟩
theorem E7:TIok Tryz.prog 66 oD:=⟨by show Sh Tryz.prog 66=some (false,1);kernel_rfl,by show zeroOf Tryz.prog 66=some [.pointer none];kernel_rfl,by simp [oD],.inl rfl,trivial⟩
def oC:TI:=⟨false,1,.other,[.pointer none],[],[]⟩
theorem E6:TIok Tryz.prog 98 oC:=⟨by show Sh Tryz.prog 98=some (false,1);kernel_rfl,by show zeroOf Tryz.prog 98=some [.pointer none];kernel_rfl,by simp [oC],.inl rfl,trivial⟩
def GI:TI:=⟨false,1,.other,[.pointer none],[],[]⟩
theorem adD:TIok Tryz.prog 156 GI:=⟨by show Sh Tryz.prog 156=some (false,1);kernel_rfl,by show zeroOf Tryz.prog 156=some [.pointer none];kernel_rfl,by simp [GI],.inl rfl,trivial⟩
def rI:TI:=⟨false,1,.other,[.pointer none],[],[]⟩
theorem K9:TIok Tryz.prog 169 rI:=⟨by show Sh Tryz.prog 169=some (false,1);kernel_rfl,by show zeroOf Tryz.prog 169=some [.pointer none];kernel_rfl,by simp [rI],.inl rfl,trivial⟩
def je:TI:=⟨false,1,.other,[.pointer none],[],[]⟩
theorem vA:TIok Tryz.prog 174 je:=⟨by show Sh Tryz.prog 174=some (false,1);kernel_rfl,by show zeroOf Tryz.prog 174=some [.pointer none];kernel_rfl,by simp [je],.inl rfl,trivial⟩
def xT:TI:=⟨false,1,.other,[.pointer none],[],[]⟩
theorem W6:TIok Tryz.prog 186 xT:=⟨by show Sh Tryz.prog 186=some (false,1);kernel_rfl,by show zeroOf Tryz.prog 186=some [.pointer none];kernel_rfl,by simp [xT],.inl rfl,trivial⟩
def iW:TI:=⟨false,1,.other,[.pointer none],[],[]⟩
theorem uK:TIok Tryz.prog 192 iW:=⟨by show Sh Tryz.prog 192=some (false,1);kernel_rfl,by show zeroOf Tryz.prog 192=some [.pointer none];kernel_rfl,by simp [iW],.inl rfl,trivial⟩
def gS:TI:=⟨false,1,.other,[.pointer none],[],[]⟩
theorem sx:TIok Tryz.prog 213 gS:=⟨by show Sh Tryz.prog 213=some (false,1);kernel_rfl,by show zeroOf Tryz.prog 213=some [.pointer none];kernel_rfl,by simp [gS],.inl rfl,trivial⟩
def ahv:TypeId→Option TI
 |15=>some eJ
 |16=>some fQ
 |17=>some rJ
 |40=>some pE
 |66=>some oD
 |98=>some oC
 |156=>some GI
 |169=>some rI
 |174=>some je
 |186=>some xT
 |192=>some iW
 |213=>some gS
 |t=>tab t
theorem afR:∀t i,ahv t=some i→TIok Tryz.prog t i:=by
 intro t i h
 unfold ahv at h
 split at h
 ·cases h;exact mx
 ·cases h;exact qp
 ·cases h;exact LA
 ·cases h;exact HZ
 ·cases h;exact E7
 ·cases h;exact E6
 ·cases h;exact adD
 ·cases h;exact K9
 ·cases h;exact vA
 ·cases h;exact W6
 ·cases h;exact uK
 ·cases h;exact sx
 ·exact acM _ _ h
def uL (n:Nat) (l:List (FuncId×Con)) (ex wr pt:Nat→Bool):Env:=⟨n,ahv,look l,ex,wr,pt⟩
theorem oY {n:Nat}{l:List (FuncId×Con)}{ex wr pt:Nat→Bool}(h:AllHas Tryz.prog l):A4 Tryz.prog (uL n l ex wr pt):=⟨afR,fun _ _ hc=>IB h hc⟩
theorem Has.ofEI (ex wr pt : Nat → Bool) {l : List (FuncId × Con)} (hl : AllHas Tryz.prog l) {f : FuncId} {fn : Func} {cd : Code} {C : Con} (hf : Tryz.prog.funcs[f]? = some fn) (hb : fn.body = some cd) (hnm : fn.name ≠ "runtime.NumGoroutine") (hlen : C.A.length ≤ fn.ntmps)
  (h:∀x y,C.pre x y→vc Tryz.prog fn.ntmps (DZ (uL fn.ntmps l ex wr pt)) cd (entry (APs.gh C.A x) (APs.gh C.B y)) (DE (uL fn.ntmps l ex wr pt).sh fn.results.toList C.B.length C.mv (fun r os=>∃z,C.φ x y z∧r=C.r x y z∧os=C.o x y z∧os.length=C.B.length+C.nf))):Has Tryz.prog f C:=
 ⟨wx.of (oY hl) mixed hf hb rfl hlen h,fn,hf,by rw [hb];rfl,hnm⟩
theorem Has.recEI (ex wr pt : Nat → Bool) {f : FuncId} {fn : Func} {cd : Code} {C : Con} (μ : APs.Ty C.A → APs.Ty C.B → Nat) {l : List (FuncId × Con)} (hl : AllHas Tryz.prog l) (hf : Tryz.prog.funcs[f]? = some fn) (hb : fn.body = some cd) (hnm : fn.name ≠ "runtime.NumGoroutine") (hlen : C.A.length ≤ fn.ntmps)
  (h:∀x y,C.pre x y→Has Tryz.prog f (C.below μ (μ x y))→vc Tryz.prog fn.ntmps (DZ (uL fn.ntmps ((f,C.below μ (μ x y))::l) ex wr pt)) cd (entry (APs.gh C.A x) (APs.gh C.B y)) (DE (uL fn.ntmps l ex wr pt).sh fn.results.toList C.B.length C.mv (fun r os=>∃z,C.φ x y z∧r=C.r x y z∧os=C.o x y z∧os.length=C.B.length+C.nf))):Has Tryz.prog f C:=by
 have hE:Enters Tryz.prog f:=⟨fn,hf,by rw [hb];rfl,hnm⟩
 have key:∀n,wx Tryz.prog f (C.below μ n):=by
  intro n
  induction n with
  |zero=>intro x y hp;exact absurd hp.2 (by omega)
  |succ n ih=>
   intro (x:APs.Ty C.A) (y:APs.Ty C.B) (hp:C.pre x y∧μ x y<n+1)
   have hm:Has Tryz.prog f (C.below μ (μ x y)):=⟨fun x' y' hp'=>ih x' y' ⟨hp'.1,by have:=hp.2;have h2:μ x' y' < μ x y:=hp'.2;omega⟩,hE⟩
   have hl':AllHas Tryz.prog ((f,C.below μ (μ x y))::l):=⟨hm,hl⟩
   have hx:(APs.gh C.A x).length≤fn.ntmps:=by rw [APs.fF];exact hlen
   have hy:(APs.gh C.B y).length=C.B.length:=APs.fF C.B y
   exact TC.tC (P:=Tryz.prog) (N:=fn.ntmps) (S:=DZ (uL fn.ntmps ((f,C.below μ (μ x y))::l) ex wr pt)) (sh:=(uL fn.ntmps l ex wr pt).sh) (f:=f) (fn:=fn) (cd:=cd) (args:=APs.gh C.A x) (bs:=APs.gh C.B y) (mv:=C.mv) (post:=fun r os=>∃z,C.φ x y z∧r=C.r x y z∧os=C.o x y z∧os.length=C.B.length+C.nf) mixed (oG (oY (n:=fn.ntmps) (ex:=ex) (wr:=wr) (pt:=pt) hl')) (Env.DX (oY (n:=fn.ntmps) (ex:=ex) (wr:=wr) (pt:=pt) hl)) hf hb rfl hx (by rw [hy];exact h x y hp.1 hm)
 exact⟨fun x y hp=>key (μ x y+1) x y ⟨hp,by omega⟩,hE⟩
theorem Has.ofZI (ex wr pt : Nat → Bool) {l : List (FuncId × Con)} (hl : AllHas Tryz.prog l) {f : FuncId} {fn : Func} {cd : Code} {C : Con} (hf : Tryz.prog.funcs[f]? = some fn) (hb : fn.body = some cd) (hnm : fn.name ≠ "runtime.NumGoroutine") (hlen : C.A.length ≤ fn.ntmps)
  (h:∀x y,C.pre x y→vc Tryz.prog fn.ntmps (DZ (uL fn.ntmps l ex wr pt)) cd (entry (APs.gh C.A x) (APs.gh C.B y)) (DE (uL fn.ntmps l ex wr pt).sh fn.results.toList C.B.length C.mv (fun r os=>∃z j,C.φ x y z∧r=C.r x y z∧os++List.replicate j .zz=C.o x y z∧(C.o x y z).length=C.B.length+C.nf))):Has Tryz.prog f C:=by
 refine⟨fun x y hp=>?_,fn,hf,by rw [hb];rfl,hnm⟩
 have hx:(APs.gh C.A x).length≤fn.ntmps:=by rw [APs.fF];exact hlen
 have hy:(APs.gh C.B y).length=C.B.length:=APs.fF C.B y
 refine TC.ZM (TC.tC (P:=Tryz.prog) (N:=fn.ntmps) (S:=DZ (uL fn.ntmps l ex wr pt)) (sh:=(uL fn.ntmps l ex wr pt).sh) (f:=f) (fn:=fn) (cd:=cd) (args:=APs.gh C.A x) (bs:=APs.gh C.B y) (mv:=C.mv) (post:=fun r os=>∃z j,C.φ x y z∧r=C.r x y z∧os++List.replicate j .zz=C.o x y z∧(C.o x y z).length=C.B.length+C.nf) mixed (oG (oY (n:=fn.ntmps) (ex:=ex) (wr:=wr) (pt:=pt) hl)) (Env.DX (oY (n:=fn.ntmps) (ex:=ex) (wr:=wr) (pt:=pt) hl)) hf hb rfl hx (by rw [hy];exact h x y hp)) ?_
 rintro r os ⟨z,j,h1,h2,h3,h4⟩
 exact⟨j,z,h1,h2,h3,by rw [h3];exact h4⟩
theorem Has.ofWI (ex wr pt : Nat → Bool) {l : List (FuncId × Con)} (hl : AllHas Tryz.prog l) {f : FuncId} {fn : Func} {cd : Code} {C : Con} (hf : Tryz.prog.funcs[f]? = some fn) (hb : fn.body = some cd) (hnm : fn.name ≠ "runtime.NumGoroutine") (hlen : C.A.length ≤ fn.ntmps)
  (h:∀x y,C.pre x y→vc Tryz.prog fn.ntmps (DZ (uL fn.ntmps l ex wr pt)) cd (entry (APs.gh C.A x) (APs.gh C.B y)) (DE (uL fn.ntmps l ex wr pt).sh fn.results.toList C.B.length C.mv (fun r os=>∃z j,C.φ x y z∧Wk (C.r x y z) r∧os++List.replicate j .zz=C.o x y z∧(C.o x y z).length=C.B.length+C.nf))):Has Tryz.prog f C:=by
 refine⟨fun x y hp=>?_,fn,hf,by rw [hb];rfl,hnm⟩
 have hx:(APs.gh C.A x).length≤fn.ntmps:=by rw [APs.fF];exact hlen
 have hy:(APs.gh C.B y).length=C.B.length:=APs.fF C.B y
 refine TC.aiR (TC.tC (P:=Tryz.prog) (N:=fn.ntmps) (S:=DZ (uL fn.ntmps l ex wr pt)) (sh:=(uL fn.ntmps l ex wr pt).sh) (f:=f) (fn:=fn) (cd:=cd) (args:=APs.gh C.A x) (bs:=APs.gh C.B y) (mv:=C.mv) (post:=fun r os=>∃z j,C.φ x y z∧Wk (C.r x y z) r∧os++List.replicate j .zz=C.o x y z∧(C.o x y z).length=C.B.length+C.nf) mixed (oG (oY (n:=fn.ntmps) (ex:=ex) (wr:=wr) (pt:=pt) hl)) (Env.DX (oY (n:=fn.ntmps) (ex:=ex) (wr:=wr) (pt:=pt) hl)) hf hb rfl hx (by rw [hy];exact h x y hp)) ?_
 rintro r os ⟨z,j,h1,h2,h3,h4⟩
 exact⟨C.r x y z,j,h2,z,h1,rfl,h3,by rw [h3];exact h4⟩
theorem l9 {l:List (FuncId×Con)}{n:Nat}{ex wr pt:Nat→Bool}(hl:AllHas Tryz.prog l) {τ:St}{Q':pb}{cd:Code}{ι:Type}(bY:List fK) (J:ι→AX) (φ:ι→Prop) (μ:ι→Nat) (x0:ι) (sg0:List (Nat×Nat)) (h0:φ x0) (hs:E2 sg0 τ τ bY (J x0))
  (tP:∀x,φ x→vc Tryz.prog n (DZ (uL n l ex wr pt)) cd ((oR τ bY).ap (J x)) (zp (fun τ'=>∃y sg,φ y∧μ y < μ x∧E2 sg τ τ' bY (J y)) Q')):TW Tryz.prog n (.loop cd) τ Q':=
 ag4 (E:=uL n l ex wr pt) (oY hl) mixed bY J φ μ x0 sg0 h0 hs tP
theorem ak0 {l:List (FuncId×Con)}{n:Nat}{ex wr pt:Nat→Bool}(hl:AllHas Tryz.prog l) {τ:St}{Q':pb}{cd:Code}(k:Nat) (h:vcR Tryz.prog n (DZ (uL n l ex wr pt)) Q' k cd τ):TW Tryz.prog n (.loop cd) τ Q':=fun c a w hr=>
 wp_loop_rounds k (BA mixed (oG (oY (n:=n) (ex:=ex) (wr:=wr) (pt:=pt) hl)) k cd τ h c a w hr)
end GL
end Go.Proofs.YtbfgjadbfjkcdaaGreatDoor
namespace Go.Proofs
open Go.Shelf
def Tryz.EB:Go.Shelf.Ren:=⟨fun |156=>127 |165=>148 |166=>149 |169=>150 |240=>164 |241=>165 |276=>178 |277=>179 |n=>n,fun |31=>23 |9=>9 |3=>3 |4=>4 |0=>0 |20=>20 |72=>176 |76=>172 |70=>174 |37=>22 |75=>171 |127=>186 |164=>195 |5=>5 |80=>178 |n=>n,fun |n=>n⟩
theorem Tryz.Z6:Go.Proofs.Lays.n156 Tryz.prog Tryz.EB:= {
 mixed:=by kernel_rfl
 f156:=Tryz.func127.trans (congrArg some (by kernel_rfl))
 f165:=Tryz.func148.trans (congrArg some (by kernel_rfl))
 f166:=Tryz.func149.trans (congrArg some (by kernel_rfl))
 f169:=Tryz.func150.trans (congrArg some (by kernel_rfl))
 f240:=Tryz.func164.trans (congrArg some (by kernel_rfl))
 f241:=Tryz.func165.trans (congrArg some (by kernel_rfl))
 f276:=Tryz.func178.trans (congrArg some (by kernel_rfl))
 f277:=Tryz.func179.trans (congrArg some (by kernel_rfl))
 t0:=Tryz.underlying0
 a0:=Tryz.isAgg0
 z0:=Tryz.sizeOf0
 v0:=Tryz.zeroValue0
 t3:=Tryz.underlying3
 a3:=Tryz.isAgg3
 z3:=Tryz.sizeOf3
 v3:=Tryz.zeroValue3
 t4:=Tryz.underlying4
 a4:=Tryz.isAgg4
 z4:=Tryz.sizeOf4
 v4:=Tryz.zeroValue4
 t9:=Tryz.underlying9
 a9:=Tryz.isAgg9
 z9:=Tryz.sizeOf9
 v9:=Tryz.zeroValue9
 t20:=Tryz.underlying20
 a20:=Tryz.isAgg20
 z20:=Tryz.sizeOf20
 v20:=Tryz.zeroValue20
 t31:=Tryz.underlying23
 a31:=Tryz.isAgg23
 z31:=Tryz.sizeOf23
 v31:=Tryz.zeroValue23
 t37:=Tryz.underlying22
 a37:=Tryz.isAgg22
 z37:=Tryz.sizeOf22
 v37:=Tryz.zeroValue22
 t70:=Tryz.underlying174
 a70:=Tryz.isAgg174
 z70:=Tryz.sizeOf174
 v70:=Tryz.zeroValue174
 t72:=Tryz.underlying176
 a72:=Tryz.isAgg176
 z72:=Tryz.sizeOf176
 v72:=Tryz.zeroValue176
 t75:=Tryz.underlying171
 a75:=Tryz.isAgg171
 z75:=Tryz.sizeOf171
 v75:=Tryz.zeroValue171
 t76:=Tryz.underlying172
 a76:=Tryz.isAgg172
 z76:=Tryz.sizeOf172
 v76:=Tryz.zeroValue172
 t127:=Tryz.underlying186
 a127:=Tryz.isAgg186
 z127:=Tryz.sizeOf186
 v127:=Tryz.zeroValue186
 t164:=Tryz.underlying195
 a164:=Tryz.isAgg195
 z164:=Tryz.sizeOf195
 v164:=Tryz.zeroValue195 }
theorem Tryz.rF:Builder.Extra Tryz.prog Tryz.EB:= {
 sizeBuilder:=by kernel_rfl
 liesBuilder:=by kernel_rfl
 t5:=Tryz.underlying5
 a5:=Tryz.isAgg5
 z5:=Tryz.sizeOf5
 v5:=Tryz.zeroValue5
 infoByte:=by kernel_rfl
 cellsByte:=by kernel_rfl
 sizeByte:=by kernel_rfl
 neB5:=by decide }
open Go.RowKit in
theorem Tryz.strings_Join_none (a:Option Addr) (c:Nat) (sep:ByteArray) (w:World):
  Calls Tryz.prog 127 #[.slice a 0 c,.string sep] w fun e w'=>e= .returned (.string ⟨#[]⟩)∧w'=w:=Any.strings_Join_none Tryz.Z6 Tryz.rF a c sep w
open Go.RowKit in
theorem Tryz.strings_Join (bk o c:Nat) (xs:List ByteArray) (sep:ByteArray) (w:World) (JE:∀(j:Nat) x,xs[j]?=some x→w.cell? ⟨bk,o+j,none⟩=some (.string x)) (hbk:bk<w.heap.size) (hN:xs.length≤140737488355328) (E9:xs.length≤c) (hlen:(Lib.join (xs.map (·.data.toList)) sep.data.toList).length≤140737488355328):
  Calls Tryz.prog 127 #[.slice (some ⟨bk,o,none⟩) xs.length c,.string sep] w fun e w'=>e= .returned (.string ⟨(Lib.join (xs.map (·.data.toList)) sep.data.toList).toArray⟩)∧Below w.heap.size w w':=Any.strings_Join Tryz.Z6 Tryz.rF bk o c xs sep w JE hbk hN E9 hlen
def Tryz.TO:Go.Shelf.Ren:=⟨fun |172=>146 |244=>161 |245=>162 |247=>172 |279=>173 |280=>174 |281=>175 |282=>176 |287=>182 |316=>183 |171=>163 |205=>184 |321=>186 |322=>187 |243=>177 |246=>185 |283=>188 |284=>189 |285=>190 |286=>191 |129=>193 |317=>192 |318=>194 |319=>195 |320=>196 |337=>197 |338=>198 |n=>n,fun |9=>9 |3=>3 |75=>171 |76=>172 |4=>4 |5=>5 |167=>189 |37=>22 |0=>0 |85=>190 |2=>2 |168=>192 |53=>205 |175=>206 |46=>188 |210=>209 |127=>186 |145=>215 |143=>213 |21=>21 |171=>216 |173=>219 |212=>222 |51=>202 |20=>20 |213=>223 |232=>226 |233=>227 |80=>178 |n=>n,fun |15=>3 |16=>4 |17=>5 |18=>6 |19=>7 |n=>n⟩
theorem Tryz.aga:Go.Proofs.Lays.n172 Tryz.prog Tryz.TO:= {
 mixed:=by kernel_rfl
 f129:=Tryz.func193.trans (congrArg some (by kernel_rfl))
 f171:=Tryz.func163.trans (congrArg some (by kernel_rfl))
 f172:=Tryz.func146.trans (congrArg some (by kernel_rfl))
 f205:=Tryz.func184.trans (congrArg some (by kernel_rfl))
 f243:=Tryz.func177.trans (congrArg some (by kernel_rfl))
 f244:=Tryz.func161.trans (congrArg some (by kernel_rfl))
 f245:=Tryz.func162.trans (congrArg some (by kernel_rfl))
 f246:=Tryz.func185.trans (congrArg some (by kernel_rfl))
 f247:=Tryz.func172.trans (congrArg some (by kernel_rfl))
 f279:=Tryz.func173.trans (congrArg some (by kernel_rfl))
 f280:=Tryz.func174.trans (congrArg some (by kernel_rfl))
 f281:=Tryz.func175.trans (congrArg some (by kernel_rfl))
 f282:=Tryz.func176.trans (congrArg some (by kernel_rfl))
 f283:=Tryz.func188.trans (congrArg some (by kernel_rfl))
 f284:=Tryz.func189.trans (congrArg some (by kernel_rfl))
 f285:=Tryz.func190.trans (congrArg some (by kernel_rfl))
 f286:=Tryz.func191.trans (congrArg some (by kernel_rfl))
 f287:=Tryz.func182.trans (congrArg some (by kernel_rfl))
 f316:=Tryz.func183.trans (congrArg some (by kernel_rfl))
 f317:=Tryz.func192.trans (congrArg some (by kernel_rfl))
 f318:=Tryz.func194.trans (congrArg some (by kernel_rfl))
 f319:=Tryz.func195.trans (congrArg some (by kernel_rfl))
 f320:=Tryz.func196.trans (congrArg some (by kernel_rfl))
 f321:=Tryz.func186.trans (congrArg some (by kernel_rfl))
 f322:=Tryz.func187.trans (congrArg some (by kernel_rfl))
 f337:=Tryz.func197.trans (congrArg some (by kernel_rfl))
 f338:=Tryz.func198.trans (congrArg some (by kernel_rfl))
 t0:=Tryz.underlying0
 a0:=Tryz.isAgg0
 z0:=Tryz.sizeOf0
 v0:=Tryz.zeroValue0
 t2:=Tryz.underlying2
 a2:=Tryz.isAgg2
 z2:=Tryz.sizeOf2
 v2:=Tryz.zeroValue2
 t3:=Tryz.underlying3
 a3:=Tryz.isAgg3
 z3:=Tryz.sizeOf3
 v3:=Tryz.zeroValue3
 t4:=Tryz.underlying4
 a4:=Tryz.isAgg4
 z4:=Tryz.sizeOf4
 v4:=Tryz.zeroValue4
 t5:=Tryz.underlying5
 a5:=Tryz.isAgg5
 z5:=Tryz.sizeOf5
 v5:=Tryz.zeroValue5
 t9:=Tryz.underlying9
 a9:=Tryz.isAgg9
 z9:=Tryz.sizeOf9
 v9:=Tryz.zeroValue9
 t20:=Tryz.underlying20
 a20:=Tryz.isAgg20
 z20:=Tryz.sizeOf20
 v20:=Tryz.zeroValue20
 t21:=Tryz.underlying21
 a21:=Tryz.isAgg21
 z21:=Tryz.sizeOf21
 v21:=Tryz.zeroValue21
 t37:=Tryz.underlying22
 a37:=Tryz.isAgg22
 z37:=Tryz.sizeOf22
 v37:=Tryz.zeroValue22
 t46:=Tryz.underlying188
 a46:=Tryz.isAgg188
 z46:=Tryz.sizeOf188
 v46:=Tryz.zeroValue188
 t51:=Tryz.underlying202
 a51:=Tryz.isAgg202
 z51:=Tryz.sizeOf202
 v51:=Tryz.zeroValue202
 t53:=Tryz.underlying205
 a53:=Tryz.isAgg205
 z53:=Tryz.sizeOf205
 v53:=Tryz.zeroValue205
 t75:=Tryz.underlying171
 a75:=Tryz.isAgg171
 z75:=Tryz.sizeOf171
 v75:=Tryz.zeroValue171
 t76:=Tryz.underlying172
 a76:=Tryz.isAgg172
 z76:=Tryz.sizeOf172
 v76:=Tryz.zeroValue172
 t85:=Tryz.underlying190
 a85:=Tryz.isAgg190
 z85:=Tryz.sizeOf190
 v85:=Tryz.zeroValue190
 t127:=Tryz.underlying186
 a127:=Tryz.isAgg186
 z127:=Tryz.sizeOf186
 v127:=Tryz.zeroValue186
 t143:=Tryz.underlying213
 a143:=Tryz.isAgg213
 z143:=Tryz.sizeOf213
 v143:=Tryz.zeroValue213
 t145:=Tryz.underlying215
 a145:=Tryz.isAgg215
 z145:=Tryz.sizeOf215
 v145:=Tryz.zeroValue215
 t167:=Tryz.underlying189
 a167:=Tryz.isAgg189
 z167:=Tryz.sizeOf189
 v167:=Tryz.zeroValue189
 t168:=Tryz.underlying192
 a168:=Tryz.isAgg192
 z168:=Tryz.sizeOf192
 v168:=Tryz.zeroValue192
 t171:=Tryz.underlying216
 a171:=Tryz.isAgg216
 z171:=Tryz.sizeOf216
 v171:=Tryz.zeroValue216
 t173:=Tryz.underlying219
 a173:=Tryz.isAgg219
 z173:=Tryz.sizeOf219
 v173:=Tryz.zeroValue219
 t175:=Tryz.underlying206
 a175:=Tryz.isAgg206
 z175:=Tryz.sizeOf206
 v175:=Tryz.zeroValue206
 t210:=Tryz.underlying209
 a210:=Tryz.isAgg209
 z210:=Tryz.sizeOf209
 v210:=Tryz.zeroValue209
 t212:=Tryz.underlying222
 a212:=Tryz.isAgg222
 z212:=Tryz.sizeOf222
 v212:=Tryz.zeroValue222
 t213:=Tryz.underlying223
 a213:=Tryz.isAgg223
 z213:=Tryz.sizeOf223
 t232:=Tryz.underlying226
 a232:=Tryz.isAgg226
 z232:=Tryz.sizeOf226
 v232:=Tryz.zeroValue226
 t233:=Tryz.underlying227
 a233:=Tryz.isAgg227
 z233:=Tryz.sizeOf227
 v233:=Tryz.zeroValue227
 g15:=by kernel_rfl
 g16:=by kernel_rfl
 g17:=by kernel_rfl
 g18:=by kernel_rfl
 g19:=by kernel_rfl }
open Go.RowKit in
theorem Tryz.strconv_Atoi (s:ByteArray) (n:Int) (hl:s.size≤18) (h:Lib.atoi s.data.toList=some n) (w:World):
  Calls Tryz.prog 146 #[.string s] w fun e w'=>e= .returned (.tuple #[.int .i64 n,.nilIface])∧∃t,w'=Lib.bytesWorld w 5 t:=Any.strconv_Atoi Tryz.aga s n hl h w
def Tryz.PF:Go.Shelf.Ren:=⟨fun |171=>163 |243=>177 |246=>185 |283=>188 |284=>189 |285=>190 |286=>191 |129=>193 |317=>192 |318=>194 |319=>195 |320=>196 |337=>197 |338=>198 |n=>n,fun |3=>3 |9=>9 |2=>2 |4=>4 |171=>216 |0=>0 |53=>205 |37=>22 |5=>5 |173=>219 |212=>222 |51=>202 |20=>20 |213=>223 |46=>188 |232=>226 |233=>227 |n=>n,fun |17=>5 |18=>6 |19=>7 |n=>n⟩
theorem Tryz.ad0:Go.Proofs.LaysM.n171 Tryz.prog Tryz.PF:= {
 mixed:=by kernel_rfl
 f129:=Tryz.func193.trans (congrArg some (by kernel_rfl))
 f171:=Tryz.func163.trans (congrArg some (by kernel_rfl))
 f243:=Tryz.func177.trans (congrArg some (by kernel_rfl))
 f246:=Tryz.func185.trans (congrArg some (by kernel_rfl))
 f283:=Tryz.func188.trans (congrArg some (by kernel_rfl))
 f284:=Tryz.func189.trans (congrArg some (by kernel_rfl))
 f285:=Tryz.func190.trans (congrArg some (by kernel_rfl))
 f286:=Tryz.func191.trans (congrArg some (by kernel_rfl))
 f317:=Tryz.func192.trans (congrArg some (by kernel_rfl))
 f318:=Tryz.func194.trans (congrArg some (by kernel_rfl))
 f319:=Tryz.func195.trans (congrArg some (by kernel_rfl))
 f320:=Tryz.func196.trans (congrArg some (by kernel_rfl))
 f337:=Tryz.func197.trans (congrArg some (by kernel_rfl))
 f338:=Tryz.func198.trans (congrArg some (by kernel_rfl))
 t0:=Tryz.underlying0
 a0:=Tryz.isAgg0
 z0:=Tryz.sizeOf0
 v0:=Tryz.zeroValue0
 t2:=Tryz.underlying2
 a2:=Tryz.isAgg2
 z2:=Tryz.sizeOf2
 v2:=Tryz.zeroValue2
 t3:=Tryz.underlying3
 a3:=Tryz.isAgg3
 z3:=Tryz.sizeOf3
 v3:=Tryz.zeroValue3
 t4:=Tryz.underlying4
 a4:=Tryz.isAgg4
 z4:=Tryz.sizeOf4
 v4:=Tryz.zeroValue4
 t5:=Tryz.underlying5
 a5:=Tryz.isAgg5
 z5:=Tryz.sizeOf5
 v5:=Tryz.zeroValue5
 t9:=Tryz.underlying9
 a9:=Tryz.isAgg9
 z9:=Tryz.sizeOf9
 v9:=Tryz.zeroValue9
 t20:=Tryz.underlying20
 a20:=Tryz.isAgg20
 z20:=Tryz.sizeOf20
 v20:=Tryz.zeroValue20
 t37:=Tryz.underlying22
 a37:=Tryz.isAgg22
 z37:=Tryz.sizeOf22
 v37:=Tryz.zeroValue22
 t46:=Tryz.underlying188
 a46:=Tryz.isAgg188
 z46:=Tryz.sizeOf188
 v46:=Tryz.zeroValue188
 t51:=Tryz.underlying202
 a51:=Tryz.isAgg202
 z51:=Tryz.sizeOf202
 v51:=Tryz.zeroValue202
 t53:=Tryz.underlying205
 a53:=Tryz.isAgg205
 z53:=Tryz.sizeOf205
 v53:=Tryz.zeroValue205
 t171:=Tryz.underlying216
 a171:=Tryz.isAgg216
 z171:=Tryz.sizeOf216
 v171:=Tryz.zeroValue216
 t173:=Tryz.underlying219
 a173:=Tryz.isAgg219
 z173:=Tryz.sizeOf219
 v173:=Tryz.zeroValue219
 t212:=Tryz.underlying222
 a212:=Tryz.isAgg222
 z212:=Tryz.sizeOf222
 v212:=Tryz.zeroValue222
 t213:=Tryz.underlying223
 a213:=Tryz.isAgg223
 z213:=Tryz.sizeOf223
 t232:=Tryz.underlying226
 a232:=Tryz.isAgg226
 z232:=Tryz.sizeOf226
 v232:=Tryz.zeroValue226
 t233:=Tryz.underlying227
 a233:=Tryz.isAgg227
 z233:=Tryz.sizeOf227
 v233:=Tryz.zeroValue227
 g17:=by kernel_rfl
 g18:=by kernel_rfl
 g19:=by kernel_rfl
 i0:=by kernel_rfl
 i2:=by kernel_rfl
 i3:=by kernel_rfl
 i4:=by kernel_rfl
 i5:=by kernel_rfl
 i9:=by kernel_rfl
 i20:=by kernel_rfl
 i37:=by kernel_rfl
 i46:=by kernel_rfl
 i51:=by kernel_rfl
 i53:=by kernel_rfl
 i171:=by kernel_rfl
 i173:=by kernel_rfl
 i212:=by kernel_rfl
 i232:=by kernel_rfl
 i233:=by kernel_rfl
 m17:=by kernel_rfl
 m18:=by kernel_rfl
 m19:=by kernel_rfl }
open Go.RowKit Go.Sort Go.Lib in
theorem Tryz.strconv_Itoa (n : Int) (h0 : -9223372036854775808 ≤ n) (h1 : n ≤ 9223372036854775807) (w : World) (htab : Lib.TabIs Tryz.prog w "internal/strconv.uint64pow10" .u64 Lib.pow10Tab) :
  Calls Tryz.prog 163 #[.int .i64 n] w fun e w'=>e= .returned (.string ⟨(Lib.itoa n).toArray⟩)∧∃k os,w'=grow (w.drewN k) os:=Any.strconv_Itoa Tryz.ad0 n h0 h1 w htab
def Tryz.PG:Go.Shelf.Ren:=⟨fun |172=>146 |244=>161 |245=>162 |247=>172 |279=>173 |280=>174 |281=>175 |282=>176 |287=>182 |316=>183 |171=>163 |205=>184 |321=>186 |322=>187 |243=>177 |246=>185 |283=>188 |284=>189 |285=>190 |286=>191 |129=>193 |317=>192 |318=>194 |319=>195 |320=>196 |337=>197 |338=>198 |n=>n,fun |9=>9 |3=>3 |75=>171 |76=>172 |4=>4 |5=>5 |167=>189 |37=>22 |0=>0 |85=>190 |2=>2 |168=>192 |53=>205 |175=>206 |46=>188 |210=>209 |127=>186 |145=>215 |143=>213 |21=>21 |171=>216 |173=>219 |212=>222 |51=>202 |20=>20 |213=>223 |232=>226 |233=>227 |80=>178 |n=>n,fun |15=>3 |16=>4 |17=>5 |18=>6 |19=>7 |n=>n⟩
theorem Tryz.ad1:Go.Proofs.LaysC.n172 Tryz.prog Tryz.PG:= {
 mixed:=by kernel_rfl
 f129:=Tryz.func193.trans (congrArg some (by kernel_rfl))
 f171:=Tryz.func163.trans (congrArg some (by kernel_rfl))
 f172:=Tryz.func146.trans (congrArg some (by kernel_rfl))
 f205:=Tryz.func184.trans (congrArg some (by kernel_rfl))
 f243:=Tryz.func177.trans (congrArg some (by kernel_rfl))
 f244:=Tryz.func161.trans (congrArg some (by kernel_rfl))
 f245:=Tryz.func162.trans (congrArg some (by kernel_rfl))
 f246:=Tryz.func185.trans (congrArg some (by kernel_rfl))
 f247:=Tryz.func172.trans (congrArg some (by kernel_rfl))
 f279:=Tryz.func173.trans (congrArg some (by kernel_rfl))
 f280:=Tryz.func174.trans (congrArg some (by kernel_rfl))
 f281:=Tryz.func175.trans (congrArg some (by kernel_rfl))
 f282:=Tryz.func176.trans (congrArg some (by kernel_rfl))
 f283:=Tryz.func188.trans (congrArg some (by kernel_rfl))
 f284:=Tryz.func189.trans (congrArg some (by kernel_rfl))
 f285:=Tryz.func190.trans (congrArg some (by kernel_rfl))
 f286:=Tryz.func191.trans (congrArg some (by kernel_rfl))
 f287:=Tryz.func182.trans (congrArg some (by kernel_rfl))
 f316:=Tryz.func183.trans (congrArg some (by kernel_rfl))
 f317:=Tryz.func192.trans (congrArg some (by kernel_rfl))
 f318:=Tryz.func194.trans (congrArg some (by kernel_rfl))
 f319:=Tryz.func195.trans (congrArg some (by kernel_rfl))
 f320:=Tryz.func196.trans (congrArg some (by kernel_rfl))
 f321:=Tryz.func186.trans (congrArg some (by kernel_rfl))
 f322:=Tryz.func187.trans (congrArg some (by kernel_rfl))
 f337:=Tryz.func197.trans (congrArg some (by kernel_rfl))
 f338:=Tryz.func198.trans (congrArg some (by kernel_rfl))
 t0:=Tryz.underlying0
 a0:=Tryz.isAgg0
 z0:=Tryz.sizeOf0
 v0:=Tryz.zeroValue0
 t2:=Tryz.underlying2
 a2:=Tryz.isAgg2
 z2:=Tryz.sizeOf2
 v2:=Tryz.zeroValue2
 t3:=Tryz.underlying3
 a3:=Tryz.isAgg3
 z3:=Tryz.sizeOf3
 v3:=Tryz.zeroValue3
 t4:=Tryz.underlying4
 a4:=Tryz.isAgg4
 z4:=Tryz.sizeOf4
 v4:=Tryz.zeroValue4
 t5:=Tryz.underlying5
 a5:=Tryz.isAgg5
 z5:=Tryz.sizeOf5
 v5:=Tryz.zeroValue5
 t9:=Tryz.underlying9
 a9:=Tryz.isAgg9
 z9:=Tryz.sizeOf9
 v9:=Tryz.zeroValue9
 t20:=Tryz.underlying20
 a20:=Tryz.isAgg20
 z20:=Tryz.sizeOf20
 v20:=Tryz.zeroValue20
 t21:=Tryz.underlying21
 a21:=Tryz.isAgg21
 z21:=Tryz.sizeOf21
 v21:=Tryz.zeroValue21
 t37:=Tryz.underlying22
 a37:=Tryz.isAgg22
 z37:=Tryz.sizeOf22
 v37:=Tryz.zeroValue22
 t46:=Tryz.underlying188
 a46:=Tryz.isAgg188
 z46:=Tryz.sizeOf188
 v46:=Tryz.zeroValue188
 t51:=Tryz.underlying202
 a51:=Tryz.isAgg202
 z51:=Tryz.sizeOf202
 v51:=Tryz.zeroValue202
 t53:=Tryz.underlying205
 a53:=Tryz.isAgg205
 z53:=Tryz.sizeOf205
 v53:=Tryz.zeroValue205
 t75:=Tryz.underlying171
 a75:=Tryz.isAgg171
 z75:=Tryz.sizeOf171
 v75:=Tryz.zeroValue171
 t76:=Tryz.underlying172
 a76:=Tryz.isAgg172
 z76:=Tryz.sizeOf172
 v76:=Tryz.zeroValue172
 t85:=Tryz.underlying190
 a85:=Tryz.isAgg190
 z85:=Tryz.sizeOf190
 v85:=Tryz.zeroValue190
 t127:=Tryz.underlying186
 a127:=Tryz.isAgg186
 z127:=Tryz.sizeOf186
 v127:=Tryz.zeroValue186
 t143:=Tryz.underlying213
 a143:=Tryz.isAgg213
 z143:=Tryz.sizeOf213
 v143:=Tryz.zeroValue213
 t145:=Tryz.underlying215
 a145:=Tryz.isAgg215
 z145:=Tryz.sizeOf215
 v145:=Tryz.zeroValue215
 t167:=Tryz.underlying189
 a167:=Tryz.isAgg189
 z167:=Tryz.sizeOf189
 v167:=Tryz.zeroValue189
 t168:=Tryz.underlying192
 a168:=Tryz.isAgg192
 z168:=Tryz.sizeOf192
 v168:=Tryz.zeroValue192
 t171:=Tryz.underlying216
 a171:=Tryz.isAgg216
 z171:=Tryz.sizeOf216
 v171:=Tryz.zeroValue216
 t173:=Tryz.underlying219
 a173:=Tryz.isAgg219
 z173:=Tryz.sizeOf219
 v173:=Tryz.zeroValue219
 t175:=Tryz.underlying206
 a175:=Tryz.isAgg206
 z175:=Tryz.sizeOf206
 v175:=Tryz.zeroValue206
 t210:=Tryz.underlying209
 a210:=Tryz.isAgg209
 z210:=Tryz.sizeOf209
 v210:=Tryz.zeroValue209
 t212:=Tryz.underlying222
 a212:=Tryz.isAgg222
 z212:=Tryz.sizeOf222
 v212:=Tryz.zeroValue222
 t213:=Tryz.underlying223
 a213:=Tryz.isAgg223
 z213:=Tryz.sizeOf223
 t232:=Tryz.underlying226
 a232:=Tryz.isAgg226
 z232:=Tryz.sizeOf226
 v232:=Tryz.zeroValue226
 t233:=Tryz.underlying227
 a233:=Tryz.isAgg227
 z233:=Tryz.sizeOf227
 v233:=Tryz.zeroValue227
 g15:=by kernel_rfl
 g16:=by kernel_rfl
 g17:=by kernel_rfl
 g18:=by kernel_rfl
 g19:=by kernel_rfl
 t80:=Tryz.underlying178
 a80:=Tryz.isAgg178
 z80:=Tryz.sizeOf178
 v80:=Tryz.zeroValue178
 i0:=by kernel_rfl
 i2:=by kernel_rfl
 i3:=by kernel_rfl
 i4:=by kernel_rfl
 i5:=by kernel_rfl
 i9:=by kernel_rfl
 i20:=by kernel_rfl
 i21:=by kernel_rfl
 i37:=by kernel_rfl
 i46:=by kernel_rfl
 i51:=by kernel_rfl
 i53:=by kernel_rfl
 i75:=by kernel_rfl
 i76:=by kernel_rfl
 i80:=by kernel_rfl
 i85:=by kernel_rfl
 i127:=by kernel_rfl
 i143:=by kernel_rfl
 i145:=by kernel_rfl
 i167:=by kernel_rfl
 i168:=by kernel_rfl
 i171:=by kernel_rfl
 i173:=by kernel_rfl
 i175:=by kernel_rfl
 i210:=by kernel_rfl
 i212:=by kernel_rfl
 i232:=by kernel_rfl
 i233:=by kernel_rfl
 m15:=by kernel_rfl
 m16:=by kernel_rfl
 m17:=by kernel_rfl
 m18:=by kernel_rfl
 m19:=by kernel_rfl
 c0:=by kernel_rfl
 c2:=by kernel_rfl
 c3:=by kernel_rfl
 c4:=by kernel_rfl
 c5:=by kernel_rfl
 c9:=by kernel_rfl
 c20:=by kernel_rfl
 c21:=by kernel_rfl
 c37:=by kernel_rfl
 c46:=by kernel_rfl
 c51:=by kernel_rfl
 c53:=by kernel_rfl
 c75:=by kernel_rfl
 c76:=by kernel_rfl
 c80:=by kernel_rfl
 c85:=by kernel_rfl
 c127:=by kernel_rfl
 c143:=by kernel_rfl
 c145:=by kernel_rfl
 c167:=by kernel_rfl
 c168:=by kernel_rfl
 c171:=by kernel_rfl
 c173:=by kernel_rfl
 c175:=by kernel_rfl
 c210:=by kernel_rfl
 c212:=by kernel_rfl
 c213:=by kernel_rfl
 c232:=by kernel_rfl
 c233:=by kernel_rfl }
open Go.RowKit in
theorem Tryz.strconv_Atoi_err_var (s : ByteArray) (hl : s.size ≤ 18) (h : Lib.atoi s.data.toList = none) (tp : TypeId) (p : Value) (w : World) (hvar : w.var? Tryz.prog "strconv.ErrSyntax" = some #[.iface tp p]) :
  Calls Tryz.prog 146 #[.string s] w fun e w'=>∃N,e= .returned (.tuple #[.int .i64 0,.iface 192 (.pointer (some ⟨N,0,none⟩))])∧w.heap.size≤N∧w'.heap[N]?=some (.cells #[.string ⟨#[65,116,111,105]⟩,.string s,.iface tp p] 209 (0,0))∧Below w.heap.size w w':=Any.strconv_Atoi_err_var Tryz.ad1 s hl h tp p w hvar
def Tryz.TP:Go.Shelf.Ren:=⟨fun |146=>90 |221=>122 |268=>143 |138=>144 |143=>145 |195=>157 |197=>158 |218=>159 |219=>160 |260=>167 |217=>168 |225=>169 |224=>170 |267=>171 |266=>180 |314=>181 |n=>n,fun |9=>9 |31=>23 |3=>3 |4=>4 |0=>0 |105=>182 |21=>21 |5=>5 |46=>188 |119=>198 |139=>201 |138=>200 |146=>203 |51=>202 |n=>n,fun |1=>0 |3=>1 |4=>2 |n=>n⟩
theorem Tryz.agb:Go.Proofs.Lays.n146 Tryz.prog Tryz.TP:= {
 mixed:=by kernel_rfl
 f138:=Tryz.func144.trans (congrArg some (by kernel_rfl))
 f143:=Tryz.func145.trans (congrArg some (by kernel_rfl))
 f146:=Tryz.func90.trans (congrArg some (by kernel_rfl))
 f195:=Tryz.func157.trans (congrArg some (by kernel_rfl))
 f197:=Tryz.func158.trans (congrArg some (by kernel_rfl))
 f217:=Tryz.func168.trans (congrArg some (by kernel_rfl))
 f218:=Tryz.func159.trans (congrArg some (by kernel_rfl))
 f219:=Tryz.func160.trans (congrArg some (by kernel_rfl))
 f221:=Tryz.func122.trans (congrArg some (by kernel_rfl))
 f224:=Tryz.func170.trans (congrArg some (by kernel_rfl))
 f225:=Tryz.func169.trans (congrArg some (by kernel_rfl))
 f260:=Tryz.func167.trans (congrArg some (by kernel_rfl))
 f266:=Tryz.func180.trans (congrArg some (by kernel_rfl))
 f267:=Tryz.func171.trans (congrArg some (by kernel_rfl))
 f268:=Tryz.func143.trans (congrArg some (by kernel_rfl))
 f314:=Tryz.func181.trans (congrArg some (by kernel_rfl))
 t0:=Tryz.underlying0
 a0:=Tryz.isAgg0
 z0:=Tryz.sizeOf0
 v0:=Tryz.zeroValue0
 t3:=Tryz.underlying3
 a3:=Tryz.isAgg3
 z3:=Tryz.sizeOf3
 v3:=Tryz.zeroValue3
 t4:=Tryz.underlying4
 a4:=Tryz.isAgg4
 z4:=Tryz.sizeOf4
 v4:=Tryz.zeroValue4
 t5:=Tryz.underlying5
 a5:=Tryz.isAgg5
 z5:=Tryz.sizeOf5
 v5:=Tryz.zeroValue5
 t9:=Tryz.underlying9
 a9:=Tryz.isAgg9
 z9:=Tryz.sizeOf9
 v9:=Tryz.zeroValue9
 t21:=Tryz.underlying21
 a21:=Tryz.isAgg21
 z21:=Tryz.sizeOf21
 v21:=Tryz.zeroValue21
 t31:=Tryz.underlying23
 a31:=Tryz.isAgg23
 z31:=Tryz.sizeOf23
 v31:=Tryz.zeroValue23
 t46:=Tryz.underlying188
 a46:=Tryz.isAgg188
 z46:=Tryz.sizeOf188
 v46:=Tryz.zeroValue188
 t51:=Tryz.underlying202
 a51:=Tryz.isAgg202
 z51:=Tryz.sizeOf202
 v51:=Tryz.zeroValue202
 t105:=Tryz.underlying182
 a105:=Tryz.isAgg182
 z105:=Tryz.sizeOf182
 v105:=Tryz.zeroValue182
 t119:=Tryz.underlying198
 a119:=Tryz.isAgg198
 z119:=Tryz.sizeOf198
 t138:=Tryz.underlying200
 a138:=Tryz.isAgg200
 z138:=Tryz.sizeOf200
 v138:=Tryz.zeroValue200
 t139:=Tryz.underlying201
 a139:=Tryz.isAgg201
 z139:=Tryz.sizeOf201
 v139:=Tryz.zeroValue201
 t146:=Tryz.underlying203
 a146:=Tryz.isAgg203
 z146:=Tryz.sizeOf203
 v146:=Tryz.zeroValue203
 g1:=by kernel_rfl
 g3:=by kernel_rfl
 g4:=by kernel_rfl }
open Go.RowKit Go.Lib in
theorem Tryz.strings_Split (s sep:ByteArray) (m:Int) (w:World) (hs:s.size<4294967281) (hm:w.cell? ⟨0,0,none⟩=some (.int .i64 m)) (h1:1≤sep.size):
  Calls Tryz.prog 90 #[.string s,.string sep] w fun e w'=>
   e= .returned (.slice (some ⟨w.heap.size,0,none⟩) (Lib.countB s sep+1) (Lib.countB s sep+1))∧w'=w.alloc (.cells ((Lib.splitB sep 0 (Lib.countB s sep) s).map Value.string).toArray 9):=Any.strings_Split Tryz.agb (by kernel_rfl) s sep m w hs hm h1
end Go.Proofs
namespace Go.Proofs.YtbfgjadbfjkcdaaGreatDoor
namespace GL
open Go.RowKit
def PA (T:bc) (W w':World):bc:=fun b=>if b<W.heap.size then T b else match w'.heap[b]? with
 |some (.cells cs e fr)=>some (.ro cs e fr)
 |_=>none
theorem zO {T:bc}{W w':World}{b:Nat}(h:b<W.heap.size):PA T W w' b=T b:=by unfold PA;rw [if_pos h]
theorem adN {T:bc}{W w':World}{b:Nat}(h:W.heap.size≤b) {cs:Array Value}{e:TypeId}{fr:Nat×Nat}(hb:w'.heap[b]?=some (.cells cs e fr)):PA T W w' b=some (.ro cs e fr):=by
 unfold PA;rw [if_neg (by omega),hb]
theorem XF {W w':World}{T:bc}{β:Nat→Nat}(hT:WT T W) (hN:U6 T) (hB:Below W.heap.size W w'):aaS W T β 0 (PA T W w') w' where
 typed:=fun b k hb=>by
  by_cases h:b<W.heap.size
  ·rw [zO h] at hb
   exact BK.qt (hT b k hb) (hB.block b h)
  ·unfold PA at hb
   rw [if_neg h] at hb
   split at hb
   ·rename_i cs e fr hc;cases hb;exact hc
   ·cases hb
 ajg:= {
  no:=fun b ek n cs hb=>by
   by_cases h:b<W.heap.size
   ·rw [zO h] at hb;exact hN.no b ek n cs hb
   ·unfold PA at hb
    rw [if_neg h] at hb
    split at hb<;>cases hb
  oZ:=fun g hg=>by
   obtain⟨cs,e,fr,h1,h2⟩:=hN.oZ g hg
   exact⟨cs,e,fr,by rw [zO (BK.lt (hT _ _ h1))];exact h1,h2⟩ }
 new:=fun b hb=>zO hb
 frame:=fun b hb _ _=>hB.block b hb
 gd:=hB.size
 os:=hB.os
 tape:=hB.tape
 output:=hB.output
theorem Has.lib {f:FuncId}{A:List AP}{pre:APs.Ty A→Prop}{r:APs.Ty A→AV}(hE:Enters Tryz.prog f) (qu:∀x,(r x).boxes=[]∧(r x).ot=true)
  (h:∀x,pre x→∀(W:World) (T:bc) (β:Nat→Nat) (vs:List Value),WT T W→U6 T→se T β (APs.gh A x) vs→Calls Tryz.prog f vs.toArray W fun e w'=>∃v,e= .returned v∧Below W.heap.size W w'∧(r x).rel (PA T W w') β v):Has Tryz.prog f (YL A pre r):=by
 refine⟨fun x y hp=>?_,hE⟩
 intro W T β vs hT hN c7 hbx cr
 refine (h x hp W T β vs hT hN c7).mono fun e w' ⟨v,he,hB,hr⟩=>?_
 refine⟨v,r x,[],PA T W w',β,he,⟨(),trivial,rfl,rfl,rfl⟩,hr,⟨by rw [(qu x).1];simp,(qu x).2⟩,XF hT hN hB,?_⟩
 exact { len:=ZB6 _,same:=fun i hi=>rfl,at_:=fun i av hi _=>by simp at hi,inj:=fun i j av av' hi _ _ _ _=>by simp at hi }
theorem aiM (W:World) (o:Obj):(W.drew.alloc o).heap.size=W.heap.size+1:=by
 show (W.heap.push o).size=_
 simp
theorem below_freeze (W w:World) (h:Below W.heap.size W w) (a:Addr) (n:Nat) (ha:W.heap.size≤a.block):Below W.heap.size W (w.freeze a n) where
 os:=by simp only [World.freeze];split<;>exact h.os
 tape:=by simp only [World.freeze];split<;>exact h.tape
 output:=by simp only [World.freeze];split<;>exact h.output
 size:=by
  simp only [World.freeze]
  split
  ·exact h.size
  ·simp only [Array.size_modify];exact h.size
 block:=fun k hk=>by
  simp only [World.freeze]
  split
  ·exact h.block k hk
  ·simp only [Array.getElem?_modify]
   rw [if_neg (by omega)]
   exact h.block k hk
theorem U1 (W:World) (e:TypeId) (s:ByteArray):Below W.heap.size W (Lib.bytesWorld W e s):=
 below_freeze W _ ((Below.refl _ _).drew.alloc (ZB6 _) _) _ _ (ZB6 _)
theorem YS (W:World) (n:Nat) (os:Array Obj):Below W.heap.size W (Go.Sort.grow (W.drewN n) os) where
 os:=rfl
 tape:=rfl
 output:=rfl
 size:=by show W.heap.size≤(W.heap++os).size;simp
 block:=fun k hk=>by
  show (W.heap++os)[k]?=_
  exact Array.getElem?_append_left hk
theorem P0 {T:bc}{W:World}(hT:WT T W) (hN:U6 T) {g:Nat}{p:Array Value→Prop}(h:(g,p)∈uG):∃cs e fr,W.heap[g]?=some (.cells cs e fr)∧p cs:=by
 obtain⟨cs,e,fr,h1,h2⟩:=hN.oZ _ h
 exact⟨cs,e,fr,hT _ _ h1,h2⟩
def jb (s:ByteArray):Int×Bool:=match Lib.atoi s.data.toList with
 |some n=>(n,true)
 |none=>(0,false)
def YQ:Con:=YL [.s .str] (fun s=>s.size≤18) fun s=>.t [.s (.int (jb s).1),.s (.er (jb s).2)]
theorem ah0:Has Tryz.prog 146 YQ:=by
 refine Has.lib ⟨_,Tryz.func146,by rfl,by decide⟩ (fun x=>⟨rfl,rfl⟩) fun (s:ByteArray) (hp:s.size≤18) W T β vs hT hN c7=>?_
 obtain⟨v,rfl⟩:∃v,vs=[v]:=by
  match vs,c7 with
  |[v],_=>exact⟨v,rfl⟩
  |[],h=>exact h.elim
  |_::_::_,h=>exact h.2.elim
 have hv:v= .string s:=c7.1
 subst hv
 cases ha:Lib.atoi s.data.toList with
 |some n=>
  refine (Tryz.strconv_Atoi s n hp ha W).mono ?_
  rintro e w' ⟨rfl,t,rfl⟩
  refine⟨_,rfl,U1 W _ t,?_⟩
  have e1:jb s=(n,true):=by unfold jb;rw [ha]
  show AV.rel _ _ (.t [.s (.int (jb s).1),.s (.er (jb s).2)]) _
  rw [e1]
  exact⟨_,rfl,rfl,rfl,trivial⟩
 |none=>
  obtain⟨cs,e,fr,h1,tp,p,rfl⟩:=P0 hT hN (g:=3) (p:=fun cs=>∃t v,cs= #[.iface t v]) (by unfold uG;simp)
  have hvar : W.var? Tryz.prog "strconv.ErrSyntax" = some #[.iface tp p] := by
   have hg : Tryz.prog.globalNamed "strconv.ErrSyntax" = some 3 := by kernel_rfl
   simp [World.var?,hg,h1]
  refine (Tryz.strconv_Atoi_err_var s hp ha tp p W hvar).mono ?_
  rintro e w' ⟨N,rfl,_,_,hB⟩
  refine⟨_,rfl,hB,?_⟩
  have e1:jb s=(0,false):=by unfold jb;rw [ha]
  show AV.rel _ _ (.t [.s (.int (jb s).1),.s (.er (jb s).2)]) _
  rw [e1]
  exact⟨_,rfl,rfl,⟨_,_,rfl⟩,trivial⟩
def aen (n:Int):ByteArray:=⟨(Lib.itoa n).toArray⟩
def YO:Con:=YL [.s .int] (fun n=>gO≤n∧n≤imax) fun n=>.s (.str (aen n))
theorem ahZ:Has Tryz.prog 163 YO:=by
 refine Has.lib ⟨_,Tryz.func163,by rfl,by decide⟩ (fun x=>⟨rfl,rfl⟩) fun (n:Int) (hp:gO≤n∧n≤imax) W T β vs hT hN c7=>?_
 obtain⟨v,rfl⟩:∃v,vs=[v]:=by
  match vs,c7 with
  |[v],_=>exact⟨v,rfl⟩
  |[],h=>exact h.elim
  |_::_::_,h=>exact h.2.elim
 have hv:v= .int .i64 n:=c7.1
 subst hv
 obtain⟨cs,e,fr,h1,rfl⟩:=P0 hT hN (g:=5) (p:=fun cs=>cs=(Lib.pow10Tab.map fun z=>Value.int .u64 z).toArray) (by unfold uG;simp)
 have hvar : Lib.TabIs Tryz.prog W "internal/strconv.uint64pow10" .u64 Lib.pow10Tab := by
  have hg : Tryz.prog.globalNamed "internal/strconv.uint64pow10" = some 5 := by kernel_rfl
  simp [Lib.TabIs,World.var?,hg,h1]
 refine (Tryz.strconv_Itoa n hp.1 hp.2 W hvar).mono ?_
 rintro e w' ⟨rfl,k,os,rfl⟩
 exact⟨_,rfl,YS W k os,rfl⟩
theorem JH:∀l:List ByteArray,flat [.str 4096] l=l.map Value.string
 |[]=>rfl
 |x::l=>by rw [iU,JH l];rfl
def ic (s sep:ByteArray):List ByteArray:=Lib.splitB sep 0 (Lib.countB s sep) s
def iH:Con:=YL [.s .str,.s .str] (fun (s,sep)=>s.size≤1000000∧1≤sep.size) fun (s,sep)=>.s (.vw ab (ic s sep))
theorem FU:Has Tryz.prog 90 iH:=by
 refine Has.lib ⟨_,Tryz.func90,by rfl,by decide⟩ (fun x=>⟨rfl,rfl⟩) fun (x:ByteArray×ByteArray) (hp:x.1.size≤1000000∧1≤x.2.size) W T β vs hT hN c7=>?_
 obtain⟨s,sep⟩:=x
 obtain⟨v,u,rfl⟩:∃v u,vs=[v,u]:=by
  match vs,c7 with
  |[v,u],_=>exact⟨v,u,rfl⟩
  |[],h=>exact h.elim
  |[_],h=>exact h.2.elim
  |_::_::_::_,h=>exact h.2.2.elim
 have hv:v= .string s:=c7.1
 have hu:u= .string sep:=c7.2.1
 subst hv;subst hu
 obtain⟨cs,e,fr,h1,m,rfl⟩:=P0 hT hN (g:=0) (p:=fun cs=>∃n,cs= #[.int .i64 n]) (by unfold uG;simp)
 have hm:W.cell? ⟨0,0,none⟩=some (.int .i64 m):=by rw [rC h1];rfl
 have hp1:s.size≤1000000:=hp.1
 have hs:s.size<4294967281:=by omega
 refine (Tryz.strings_Split s sep m W hs hm hp.2).mono ?_
 rintro e w' ⟨rfl,rfl⟩
 have hlen:(ic s sep).length=Lib.countB s sep+1:=Lib.splitB_all sep hp.2 0 _ s rfl
 refine⟨_,rfl,(Below.refl _ _).alloc (ZB6 _) _,?_⟩
 show (SV.vw ab (ic s sep)).rel _ β _
 refine .inr ⟨W.heap.size,0,Lib.countB s sep+1,_,_,_,?_,?_,adN (ZB6 _) (fr:=(0,0)) (Array.getElem?_push_size ..),?_⟩
 ·rw [hlen]
 ·rw [hlen];exact ZB6 _
 ·rw [JH]
  intro j v hj
  simpa [ic] using hj
def zX (sep:ByteArray) (l:List ByteArray):ByteArray:=⟨(Lib.join (l.map (·.data.toList)) sep.data.toList).toArray⟩
def k6:Con:=YL [.s (.vz ab),.s .str] (fun (l,sep)=>(Lib.join (l.map (·.data.toList)) sep.data.toList).length≤1000000∧l.length≤1000000) fun (l,sep)=>.s (.str (zX sep l))
theorem PW:Has Tryz.prog 127 k6:=by
 refine Has.lib ⟨_,Tryz.func127,by rfl,by decide⟩ (fun x=>⟨rfl,rfl⟩) fun (x:List ByteArray×ByteArray) (hp:(Lib.join (x.1.map (·.data.toList)) x.2.data.toList).length≤1000000∧x.1.length≤1000000) W T β vs hT hN c7=>?_
 obtain⟨l,sep⟩:=x
 obtain⟨v,u,rfl⟩:∃v u,vs=[v,u]:=by
  match vs,c7 with
  |[v,u],_=>exact⟨v,u,rfl⟩
  |[],h=>exact h.elim
  |[_],h=>exact h.2.elim
  |_::_::_::_,h=>exact h.2.2.elim
 have hu:u= .string sep:=c7.2.1
 subst hu
 have hv:(SV.vz ab l).rel T β v:=c7.1
 rcases hv with ⟨rfl,p,cap,rfl⟩ |⟨b,o,cap,cs,rfl,hlc,dG,hw⟩
 ·refine (Tryz.strings_Join_none p cap sep W).mono ?_
  rintro e w' ⟨rfl,rfl⟩
  exact⟨_,rfl,Below.refl _ _,rfl⟩
 ·obtain⟨te,fr,hc⟩:=FM hT dG
  have hp1:(Lib.join (l.map (·.data.toList)) sep.data.toList).length≤1000000:=hp.1
  have hp2:l.length≤1000000:=hp.2
  refine (Tryz.strings_Join b o cap l sep W (fun j x hj=>?_) ?_ (by omega) hlc (by omega)).mono ?_
  ·rw [rC hc]
   refine hw j _ ?_
   rw [JH,ZG6,hj];rfl
  ·rcases Nat.lt_or_ge b W.heap.size with h |h
   ·exact h
   ·rw [Array.getElem?_eq_none h] at hc;cases hc
  ·rintro e w' ⟨rfl,hB⟩
   exact⟨_,rfl,hB,rfl⟩
end GL
end Go.Proofs.YtbfgjadbfjkcdaaGreatDoor
