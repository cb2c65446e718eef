/- Part 40 of A drawn law. -/
import Derived.Shelf.LaysC
import Derived.Shelf.LaysM
import Derived.Shelf.Strconv.Atoi
import Derived.Shelf.Strconv.ErrVar
import Derived.Shelf.Strconv.Itoa3
import Derived.Shelf.Strings.OnBuilder
import Derived.Shelf.Strings.Split
import Derived.Shelf.Strings.SplitShaped
import Derived.Sort.Grow
import Derived.Test.YtkgpljpmdkflmaaGreatDoorProg
import Derived.Test.YtkgpljpmdkflmaaGreatDoorPan
set_option maxHeartbeats 20000000
set_option maxRecDepth 100000
set_option linter.all false
namespace Go.Proofs.YtkgpljpmdkflmaaGreatDoor
namespace GL
def eI:TI:=⟨false,1,.other,[.pointer none],[],[]⟩
theorem mq:TIok Tryz.prog 15 eI:=⟨by show Sh Tryz.prog 15=some (false,1);kernel_rfl,by show zeroOf Tryz.prog 15=some [.pointer none];kernel_rfl,by simp [eI],.inl rfl,trivial⟩
def fQ:TI:=⟨false,1,.other,[.pointer none],[],[]⟩
theorem qm:TIok Tryz.prog 16 fQ:=⟨by show Sh Tryz.prog 16=some (false,1);kernel_rfl,by show zeroOf Tryz.prog 16=some [.pointer none];kernel_rfl,by simp [fQ],.inl rfl,trivial⟩
def rE:TI:=⟨false,1,.other,[.pointer none],[],[]⟩
theorem KW:TIok Tryz.prog 17 rE:=⟨by show Sh Tryz.prog 17=some (false,1);kernel_rfl,by show zeroOf Tryz.prog 17=some [.pointer none];kernel_rfl,by simp [rE],.inl rfl,trivial⟩
def pB:TI:=⟨false,1,.other,[.pointer none],[],[]⟩
theorem HN:TIok Tryz.prog 69 pB:=⟨by show Sh Tryz.prog 69=some (false,1);kernel_rfl,by show zeroOf Tryz.prog 69=some [.pointer none];kernel_rfl,by simp [pB],.inl rfl,trivial⟩
def je:TI:=⟨false,1,.other,[.pointer none],[],[]⟩
theorem vt:TIok Tryz.prog 87 je:=⟨by show Sh Tryz.prog 87=some (false,1);kernel_rfl,by show zeroOf Tryz.prog 87=some [.pointer none];kernel_rfl,by simp [je],.inl rfl,trivial⟩
def pC:TI:=⟨false,1,.other,[.pointer none],[],[]⟩
theorem HO:TIok Tryz.prog 100 pC:=⟨by show Sh Tryz.prog 100=some (false,1);kernel_rfl,by show zeroOf Tryz.prog 100=some [.pointer none];kernel_rfl,by simp [pC],.inl rfl,trivial⟩
def oy:TI:=⟨false,1,.other,[.pointer none],[],[]⟩
theorem EV:TIok Tryz.prog 116 oy:=⟨by show Sh Tryz.prog 116=some (false,1);kernel_rfl,by show zeroOf Tryz.prog 116=some [.pointer none];kernel_rfl,by simp [oy],.inl rfl,trivial⟩
def xN:TI:=⟨false,1,.other,[.pointer none],[],[]⟩
theorem WK:TIok Tryz.prog 131 xN:=⟨by show Sh Tryz.prog 131=some (false,1);kernel_rfl,by show zeroOf Tryz.prog 131=some [.pointer none];kernel_rfl,by simp [xN],.inl rfl,trivial⟩
def iW:TI:=⟨false,1,.other,[.pointer none],[],[]⟩
theorem uG:TIok Tryz.prog 150 iW:=⟨by show Sh Tryz.prog 150=some (false,1);kernel_rfl,by show zeroOf Tryz.prog 150=some [.pointer none];kernel_rfl,by simp [iW],.inl rfl,trivial⟩
def ox:TI:=⟨false,1,.other,[.pointer none],[],[]⟩
theorem EU:TIok Tryz.prog 185 ox:=⟨by show Sh Tryz.prog 185=some (false,1);kernel_rfl,by show zeroOf Tryz.prog 185=some [.pointer none];kernel_rfl,by simp [ox],.inl rfl,trivial⟩
def F5:TI:=⟨false,1,.other,[.pointer none],[],[]⟩
theorem adh:TIok Tryz.prog 202 F5:=⟨by show Sh Tryz.prog 202=some (false,1);kernel_rfl,by show zeroOf Tryz.prog 202=some [.pointer none];kernel_rfl,by simp [F5],.inl rfl,trivial⟩
def rD:TI:=⟨false,1,.other,[.pointer none],[],[]⟩
theorem KV:TIok Tryz.prog 247 rD:=⟨by show Sh Tryz.prog 247=some (false,1);kernel_rfl,by show zeroOf Tryz.prog 247=some [.pointer none];kernel_rfl,by simp [rD],.inl rfl,trivial⟩
def iX:TI:=⟨false,1,.other,[.pointer none],[],[]⟩
theorem uH:TIok Tryz.prog 260 iX:=⟨by show Sh Tryz.prog 260=some (false,1);kernel_rfl,by show zeroOf Tryz.prog 260=some [.pointer none];kernel_rfl,by simp [iX],.inl rfl,trivial⟩
def gR:TI:=⟨false,1,.other,[.pointer none],[],[]⟩
theorem su:TIok Tryz.prog 272 gR:=⟨by show Sh Tryz.prog 272=some (false,1);kernel_rfl,by show zeroOf Tryz.prog 272=some [.pointer none];kernel_rfl,by simp [gR],.inl rfl,trivial⟩
def ag5:TypeId→Option TI
 |15=>some eI
 |16=>some fQ
 |17=>some rE
 |69=>some pB
 |87=>some je
 |100=>some pC
 |116=>some oy
 |131=>some xN
 |150=>some iW
 |185=>some ox
 |202=>some F5
 |247=>some rD
 |260=>some iX
 |272=>some gR
 |t=>tab t
theorem aft:∀t i,ag5 t=some i→TIok Tryz.prog t i:=by
 intro t i h
 unfold ag5 at h
 split at h
 ·cases h;exact mq
 ·cases h;exact qm
 ·cases h;exact KW
 ·cases h;exact HN
 ·cases h;exact vt
 ·cases h;exact HO
 ·cases h;exact EV
 ·cases h;exact WK
 ·cases h;exact uG
 ·cases h;exact EU
 ·cases h;exact adh
 ·cases h;exact KV
 ·cases h;exact uH
 ·cases h;exact su
 ·exact acp _ _ h
def mkEI (n:Nat) (l:List (FuncId×ct)) (ex wr pt:Nat→Bool):Env:=⟨n,ag5,look l,ex,wr,pt⟩
theorem oV {n:Nat}{l:List (FuncId×ct)}{ex wr pt:Nat→Bool}(h:gO Tryz.prog l):AW Tryz.prog (mkEI n l ex wr pt):=⟨aft,fun _ _ hc=>HZ h hc⟩
theorem Has.zC (ex wr pt:Nat→Bool) {l:List (FuncId×ct)}(hl:gO Tryz.prog l) {f:FuncId}{fn:Func}{cd:Code}{C:ct}(hf:Tryz.prog.funcs[f]?=some fn)
  (h : ∀ x y, C.pre x y → vc Tryz.prog fn.ntmps (sem (mkEI fn.ntmps l ex wr pt)) cd (entry (APs.avs C.A x) (APs.avs C.B y)) (endQ (mkEI fn.ntmps l ex wr pt).sh fn.results.toList C.B.length C.mv (fun r os => ∃ z, C.φ x y z ∧ r = C.r x y z ∧ os = C.o x y z ∧ os.length = C.B.length + C.nf))) (hb : fn.body = some cd := by exact rfl) (hnm : fn.name ≠ "runtime.NumGoroutine" := by decide) (hlen : C.A.length ≤ fn.ntmps := by exact zqNlb rfl) : Has Tryz.prog f C :=
 ⟨wo.of (oV hl) mixed hf hb rfl hlen h,fn,hf,by rw [hb];rfl,hnm⟩
theorem Has.WN (ex wr pt:Nat→Bool) {l:List (FuncId×ct)}(hl:gO Tryz.prog l) {f:FuncId}{fn:Func}{cd:Code}{C:ct}(hf:Tryz.prog.funcs[f]?=some fn)
  (h : ∀ x y, C.pre x y → vc Tryz.prog fn.ntmps (sem (mkEI fn.ntmps l ex wr pt)) cd (entry (APs.avs C.A x) (APs.avs C.B y)) (endQ (mkEI fn.ntmps l ex wr pt).sh fn.results.toList C.B.length C.mv (fun r os => ∃ z j, C.φ x y z ∧ r = C.r x y z ∧ os ++ List.replicate j .zz = C.o x y z ∧ (C.o x y z).length = C.B.length + C.nf))) (hb : fn.body = some cd := by exact rfl) (hnm : fn.name ≠ "runtime.NumGoroutine" := by decide) (hlen : C.A.length ≤ fn.ntmps := by exact zqNlb rfl) : Has Tryz.prog f C := by
 refine⟨fun x y hp=>?_,fn,hf,by rw [hb];rfl,hnm⟩
 have hx:(APs.avs C.A x).length≤fn.ntmps:=by rw [APs.fF];exact hlen
 have hy:(APs.avs C.B y).length=C.B.length:=APs.fF C.B y
 refine TC.Y1 (TC.tA (P:=Tryz.prog) (N:=fn.ntmps) (S:=sem (mkEI fn.ntmps l ex wr pt)) (sh:=(mkEI fn.ntmps l ex wr pt).sh) (f:=f) (fn:=fn) (cd:=cd) (args:=APs.avs C.A x) (bs:=APs.avs C.B y) (mv:=C.mv) (post:=fun r os=>∃z j,C.φ x y z∧r=C.r x y z∧os++List.replicate j .zz=C.o x y z∧(C.o x y z).length=C.B.length+C.nf) mixed (oB (oV (n:=fn.ntmps) (ex:=ex) (wr:=wr) (pt:=pt) hl)) (Env.DP (oV (n:=fn.ntmps) (ex:=ex) (wr:=wr) (pt:=pt) hl)) hf hb rfl hx (by rw [hy];exact h x y hp)) ?_
 rintro r os ⟨z,j,h1,h2,h3,h4⟩
 exact⟨j,z,h1,h2,h3,by rw [h3];exact h4⟩
theorem Has.al3 (ex wr pt:Nat→Bool) {l:List (FuncId×ct)}(hl:gO Tryz.prog l) {f:FuncId}{fn:Func}{cd:Code}{C:ct}(hf:Tryz.prog.funcs[f]?=some fn)
  (h : ∀ x y, C.pre x y → vc Tryz.prog fn.ntmps (sem (mkEI fn.ntmps l ex wr pt)) cd (entry (APs.avs C.A x) (APs.avs C.B y)) (endQ (mkEI fn.ntmps l ex wr pt).sh fn.results.toList C.B.length C.mv (fun r os => ∃ z j, C.φ x y z ∧ Wk (C.r x y z) r ∧ os ++ List.replicate j .zz = C.o x y z ∧ (C.o x y z).length = C.B.length + C.nf))) (hb : fn.body = some cd := by exact rfl) (hnm : fn.name ≠ "runtime.NumGoroutine" := by decide) (hlen : C.A.length ≤ fn.ntmps := by exact zqNlb rfl) : Has Tryz.prog f C := by
 refine⟨fun x y hp=>?_,fn,hf,by rw [hb];rfl,hnm⟩
 have hx:(APs.avs C.A x).length≤fn.ntmps:=by rw [APs.fF];exact hlen
 have hy:(APs.avs C.B y).length=C.B.length:=APs.fF C.B y
 refine TC.ait (TC.tA (P:=Tryz.prog) (N:=fn.ntmps) (S:=sem (mkEI fn.ntmps l ex wr pt)) (sh:=(mkEI fn.ntmps l ex wr pt).sh) (f:=f) (fn:=fn) (cd:=cd) (args:=APs.avs C.A x) (bs:=APs.avs C.B y) (mv:=C.mv) (post:=fun r os=>∃z j,C.φ x y z∧Wk (C.r x y z) r∧os++List.replicate j .zz=C.o x y z∧(C.o x y z).length=C.B.length+C.nf) mixed (oB (oV (n:=fn.ntmps) (ex:=ex) (wr:=wr) (pt:=pt) hl)) (Env.DP (oV (n:=fn.ntmps) (ex:=ex) (wr:=wr) (pt:=pt) hl)) hf hb rfl hx (by rw [hy];exact h x y hp)) ?_
 rintro r os ⟨z,j,h1,h2,h3,h4⟩
 exact⟨C.r x y z,j,h2,z,h1,rfl,h3,by rw [h3];exact h4⟩
theorem l4 {l:List (FuncId×ct)}{n:Nat}{ex wr pt:Nat→Bool}(hl:gO Tryz.prog l) {τ:St}{Q':o8}{cd:Code}{ι:Type}(ca:List fK) (J:ι→AO) (φ:ι→Prop) (μ:ι→Nat) (x0:ι) (sg0:List (Nat×Nat)) (h0:φ x0) (hs:EP sg0 τ τ ca (J x0))
  (tN:∀x,φ x→vc Tryz.prog n (sem (mkEI n l ex wr pt)) cd ((oO τ ca).ap (J x)) (zf (fun τ'=>∃y sg,φ y∧μ y < μ x∧EP sg τ τ' ca (J y)) Q')):TW Tryz.prog n (.loop cd) τ Q':=
 agE (E:=mkEI n l ex wr pt) (oV hl) mixed ca J φ μ x0 sg0 h0 hs tN
end GL
end Go.Proofs.YtkgpljpmdkflmaaGreatDoor
namespace Go.Proofs
open Go.Shelf
def Tryz.D2:Go.Shelf.Ren:=⟨fun |156=>237 |165=>212 |166=>81 |169=>82 |240=>126 |241=>248 |276=>167 |277=>270 |n=>n,fun |31=>23 |9=>9 |3=>3 |4=>4 |0=>0 |20=>20 |72=>89 |76=>92 |70=>87 |37=>22 |75=>91 |127=>131 |164=>172 |5=>5 |80=>94 |n=>n,fun |n=>n⟩
theorem Tryz.ZM:Go.Proofs.Lays.n156 Tryz.prog Tryz.D2:= {
 mixed:=by kernel_rfl
 f156:=Tryz.func237.trans (congrArg some (by kernel_rfl))
 f165:=Tryz.func212.trans (congrArg some (by kernel_rfl))
 f166:=Tryz.func81.trans (congrArg some (by kernel_rfl))
 f169:=Tryz.func82.trans (congrArg some (by kernel_rfl))
 f240:=Tryz.func126.trans (congrArg some (by kernel_rfl))
 f241:=Tryz.func248.trans (congrArg some (by kernel_rfl))
 f276:=Tryz.func167.trans (congrArg some (by kernel_rfl))
 f277:=Tryz.func270.trans (congrArg some (by kernel_rfl))
 t0:=Tryz.underlying0
 a0:=Tryz.isAgg0
 z0:=Tryz.sizeOf0
 v0:=Tryz.zeroValue0
 t3:=Tryz.underlying3
 a3:=Tryz.isAgg3
 z3:=Tryz.sizeOf3
 v3:=Tryz.zeroValue3
 t4:=Tryz.underlying4
 a4:=Tryz.isAgg4
 z4:=Tryz.sizeOf4
 v4:=Tryz.zeroValue4
 t9:=Tryz.underlying9
 a9:=Tryz.isAgg9
 z9:=Tryz.sizeOf9
 v9:=Tryz.zeroValue9
 t20:=Tryz.underlying20
 a20:=Tryz.isAgg20
 z20:=Tryz.sizeOf20
 v20:=Tryz.zeroValue20
 t31:=Tryz.underlying23
 a31:=Tryz.isAgg23
 z31:=Tryz.sizeOf23
 v31:=Tryz.zeroValue23
 t37:=Tryz.underlying22
 a37:=Tryz.isAgg22
 z37:=Tryz.sizeOf22
 v37:=Tryz.zeroValue22
 t70:=Tryz.underlying87
 a70:=Tryz.isAgg87
 z70:=Tryz.sizeOf87
 v70:=Tryz.zeroValue87
 t72:=Tryz.underlying89
 a72:=Tryz.isAgg89
 z72:=Tryz.sizeOf89
 v72:=Tryz.zeroValue89
 t75:=Tryz.underlying91
 a75:=Tryz.isAgg91
 z75:=Tryz.sizeOf91
 v75:=Tryz.zeroValue91
 t76:=Tryz.underlying92
 a76:=Tryz.isAgg92
 z76:=Tryz.sizeOf92
 v76:=Tryz.zeroValue92
 t127:=Tryz.underlying131
 a127:=Tryz.isAgg131
 z127:=Tryz.sizeOf131
 v127:=Tryz.zeroValue131
 t164:=Tryz.underlying172
 a164:=Tryz.isAgg172
 z164:=Tryz.sizeOf172
 v164:=Tryz.zeroValue172 }
theorem Tryz.rB:Builder.Extra Tryz.prog Tryz.D2:= {
 sizeBuilder:=by kernel_rfl
 liesBuilder:=by kernel_rfl
 t5:=Tryz.underlying5
 a5:=Tryz.isAgg5
 z5:=Tryz.sizeOf5
 v5:=Tryz.zeroValue5
 infoByte:=by kernel_rfl
 cellsByte:=by kernel_rfl
 sizeByte:=by kernel_rfl
 neB5:=by decide }
open Go.RowKit in
theorem Tryz.strings_Join_none (a:Option Addr) (c:Nat) (sep:ByteArray) (w:World):
  Calls Tryz.prog 237 #[.slice a 0 c,.string sep] w fun e w'=>e= .returned (.string ⟨#[]⟩)∧w'=w:=Any.strings_Join_none Tryz.ZM Tryz.rB a c sep w
open Go.RowKit in
theorem Tryz.strings_Join (bk o c:Nat) (xs:List ByteArray) (sep:ByteArray) (w:World) (I3:∀(j:Nat) x,xs[j]?=some x→w.cell? ⟨bk,o+j,none⟩=some (.string x)) (hbk:bk<w.heap.size) (hN:xs.length≤140737488355328) (EX:xs.length≤c) (hlen:(Lib.join (xs.map (·.data.toList)) sep.data.toList).length≤140737488355328):
  Calls Tryz.prog 237 #[.slice (some ⟨bk,o,none⟩) xs.length c,.string sep] w fun e w'=>e= .returned (.string ⟨(Lib.join (xs.map (·.data.toList)) sep.data.toList).toArray⟩)∧Below w.heap.size w w':=Any.strings_Join Tryz.ZM Tryz.rB bk o c xs sep w I3 hbk hN EX hlen
def Tryz.S2:Go.Shelf.Ren:=⟨fun |172=>240 |244=>266 |245=>267 |247=>277 |279=>278 |280=>279 |281=>280 |282=>281 |287=>286 |316=>265 |171=>268 |205=>287 |321=>290 |322=>291 |243=>282 |246=>288 |283=>292 |284=>293 |285=>294 |286=>295 |129=>297 |317=>296 |318=>298 |319=>299 |320=>300 |337=>301 |338=>302 |n=>n,fun |9=>9 |3=>3 |75=>91 |76=>92 |4=>4 |5=>5 |167=>257 |37=>22 |0=>0 |85=>258 |2=>2 |168=>260 |53=>235 |175=>264 |46=>208 |210=>267 |127=>131 |145=>274 |143=>272 |21=>21 |171=>275 |173=>278 |212=>281 |51=>232 |20=>20 |213=>282 |232=>285 |233=>286 |80=>94 |n=>n,fun |15=>3 |16=>4 |17=>5 |18=>6 |19=>7 |n=>n⟩
theorem Tryz.afM:Go.Proofs.Lays.n172 Tryz.prog Tryz.S2:= {
 mixed:=by kernel_rfl
 f129:=Tryz.func297.trans (congrArg some (by kernel_rfl))
 f171:=Tryz.func268.trans (congrArg some (by kernel_rfl))
 f172:=Tryz.func240.trans (congrArg some (by kernel_rfl))
 f205:=Tryz.func287.trans (congrArg some (by kernel_rfl))
 f243:=Tryz.func282.trans (congrArg some (by kernel_rfl))
 f244:=Tryz.func266.trans (congrArg some (by kernel_rfl))
 f245:=Tryz.func267.trans (congrArg some (by kernel_rfl))
 f246:=Tryz.func288.trans (congrArg some (by kernel_rfl))
 f247:=Tryz.func277.trans (congrArg some (by kernel_rfl))
 f279:=Tryz.func278.trans (congrArg some (by kernel_rfl))
 f280:=Tryz.func279.trans (congrArg some (by kernel_rfl))
 f281:=Tryz.func280.trans (congrArg some (by kernel_rfl))
 f282:=Tryz.func281.trans (congrArg some (by kernel_rfl))
 f283:=Tryz.func292.trans (congrArg some (by kernel_rfl))
 f284:=Tryz.func293.trans (congrArg some (by kernel_rfl))
 f285:=Tryz.func294.trans (congrArg some (by kernel_rfl))
 f286:=Tryz.func295.trans (congrArg some (by kernel_rfl))
 f287:=Tryz.func286.trans (congrArg some (by kernel_rfl))
 f316:=Tryz.func265.trans (congrArg some (by kernel_rfl))
 f317:=Tryz.func296.trans (congrArg some (by kernel_rfl))
 f318:=Tryz.func298.trans (congrArg some (by kernel_rfl))
 f319:=Tryz.func299.trans (congrArg some (by kernel_rfl))
 f320:=Tryz.func300.trans (congrArg some (by kernel_rfl))
 f321:=Tryz.func290.trans (congrArg some (by kernel_rfl))
 f322:=Tryz.func291.trans (congrArg some (by kernel_rfl))
 f337:=Tryz.func301.trans (congrArg some (by kernel_rfl))
 f338:=Tryz.func302.trans (congrArg some (by kernel_rfl))
 t0:=Tryz.underlying0
 a0:=Tryz.isAgg0
 z0:=Tryz.sizeOf0
 v0:=Tryz.zeroValue0
 t2:=Tryz.underlying2
 a2:=Tryz.isAgg2
 z2:=Tryz.sizeOf2
 v2:=Tryz.zeroValue2
 t3:=Tryz.underlying3
 a3:=Tryz.isAgg3
 z3:=Tryz.sizeOf3
 v3:=Tryz.zeroValue3
 t4:=Tryz.underlying4
 a4:=Tryz.isAgg4
 z4:=Tryz.sizeOf4
 v4:=Tryz.zeroValue4
 t5:=Tryz.underlying5
 a5:=Tryz.isAgg5
 z5:=Tryz.sizeOf5
 v5:=Tryz.zeroValue5
 t9:=Tryz.underlying9
 a9:=Tryz.isAgg9
 z9:=Tryz.sizeOf9
 v9:=Tryz.zeroValue9
 t20:=Tryz.underlying20
 a20:=Tryz.isAgg20
 z20:=Tryz.sizeOf20
 v20:=Tryz.zeroValue20
 t21:=Tryz.underlying21
 a21:=Tryz.isAgg21
 z21:=Tryz.sizeOf21
 v21:=Tryz.zeroValue21
 t37:=Tryz.underlying22
 a37:=Tryz.isAgg22
 z37:=Tryz.sizeOf22
 v37:=Tryz.zeroValue22
 t46:=Tryz.underlying208
 a46:=Tryz.isAgg208
 z46:=Tryz.sizeOf208
 v46:=Tryz.zeroValue208
 t51:=Tryz.underlying232
 a51:=Tryz.isAgg232
 z51:=Tryz.sizeOf232
 v51:=Tryz.zeroValue232
 t53:=Tryz.underlying235
 a53:=Tryz.isAgg235
 z53:=Tryz.sizeOf235
 v53:=Tryz.zeroValue235
 t75:=Tryz.underlying91
 a75:=Tryz.isAgg91
 z75:=Tryz.sizeOf91
 v75:=Tryz.zeroValue91
 t76:=Tryz.underlying92
 a76:=Tryz.isAgg92
 z76:=Tryz.sizeOf92
 v76:=Tryz.zeroValue92
 t85:=Tryz.underlying258
 a85:=Tryz.isAgg258
 z85:=Tryz.sizeOf258
 v85:=Tryz.zeroValue258
 t127:=Tryz.underlying131
 a127:=Tryz.isAgg131
 z127:=Tryz.sizeOf131
 v127:=Tryz.zeroValue131
 t143:=Tryz.underlying272
 a143:=Tryz.isAgg272
 z143:=Tryz.sizeOf272
 v143:=Tryz.zeroValue272
 t145:=Tryz.underlying274
 a145:=Tryz.isAgg274
 z145:=Tryz.sizeOf274
 v145:=Tryz.zeroValue274
 t167:=Tryz.underlying257
 a167:=Tryz.isAgg257
 z167:=Tryz.sizeOf257
 v167:=Tryz.zeroValue257
 t168:=Tryz.underlying260
 a168:=Tryz.isAgg260
 z168:=Tryz.sizeOf260
 v168:=Tryz.zeroValue260
 t171:=Tryz.underlying275
 a171:=Tryz.isAgg275
 z171:=Tryz.sizeOf275
 v171:=Tryz.zeroValue275
 t173:=Tryz.underlying278
 a173:=Tryz.isAgg278
 z173:=Tryz.sizeOf278
 v173:=Tryz.zeroValue278
 t175:=Tryz.underlying264
 a175:=Tryz.isAgg264
 z175:=Tryz.sizeOf264
 v175:=Tryz.zeroValue264
 t210:=Tryz.underlying267
 a210:=Tryz.isAgg267
 z210:=Tryz.sizeOf267
 v210:=Tryz.zeroValue267
 t212:=Tryz.underlying281
 a212:=Tryz.isAgg281
 z212:=Tryz.sizeOf281
 v212:=Tryz.zeroValue281
 t213:=Tryz.underlying282
 a213:=Tryz.isAgg282
 z213:=Tryz.sizeOf282
 t232:=Tryz.underlying285
 a232:=Tryz.isAgg285
 z232:=Tryz.sizeOf285
 v232:=Tryz.zeroValue285
 t233:=Tryz.underlying286
 a233:=Tryz.isAgg286
 z233:=Tryz.sizeOf286
 v233:=Tryz.zeroValue286
 g15:=by kernel_rfl
 g16:=by kernel_rfl
 g17:=by kernel_rfl
 g18:=by kernel_rfl
 g19:=by kernel_rfl }
open Go.RowKit in
theorem Tryz.strconv_Atoi (s:ByteArray) (n:Int) (hl:s.size≤18) (h:Lib.atoi s.data.toList=some n) (w:World):
  Calls Tryz.prog 240 #[.string s] w fun e w'=>e= .returned (.tuple #[.int .i64 n,.nilIface])∧∃t,w'=Lib.bytesWorld w 5 t:=Any.strconv_Atoi Tryz.afM s n hl h w
def Tryz.O1:Go.Shelf.Ren:=⟨fun |171=>268 |243=>282 |246=>288 |283=>292 |284=>293 |285=>294 |286=>295 |129=>297 |317=>296 |318=>298 |319=>299 |320=>300 |337=>301 |338=>302 |n=>n,fun |3=>3 |9=>9 |2=>2 |4=>4 |171=>275 |0=>0 |53=>235 |37=>22 |5=>5 |173=>278 |212=>281 |51=>232 |20=>20 |213=>282 |46=>208 |232=>285 |233=>286 |n=>n,fun |17=>5 |18=>6 |19=>7 |n=>n⟩
theorem Tryz.adF:Go.Proofs.LaysM.n171 Tryz.prog Tryz.O1:= {
 mixed:=by kernel_rfl
 f129:=Tryz.func297.trans (congrArg some (by kernel_rfl))
 f171:=Tryz.func268.trans (congrArg some (by kernel_rfl))
 f243:=Tryz.func282.trans (congrArg some (by kernel_rfl))
 f246:=Tryz.func288.trans (congrArg some (by kernel_rfl))
 f283:=Tryz.func292.trans (congrArg some (by kernel_rfl))
 f284:=Tryz.func293.trans (congrArg some (by kernel_rfl))
 f285:=Tryz.func294.trans (congrArg some (by kernel_rfl))
 f286:=Tryz.func295.trans (congrArg some (by kernel_rfl))
 f317:=Tryz.func296.trans (congrArg some (by kernel_rfl))
 f318:=Tryz.func298.trans (congrArg some (by kernel_rfl))
 f319:=Tryz.func299.trans (congrArg some (by kernel_rfl))
 f320:=Tryz.func300.trans (congrArg some (by kernel_rfl))
 f337:=Tryz.func301.trans (congrArg some (by kernel_rfl))
 f338:=Tryz.func302.trans (congrArg some (by kernel_rfl))
 t0:=Tryz.underlying0
 a0:=Tryz.isAgg0
 z0:=Tryz.sizeOf0
 v0:=Tryz.zeroValue0
 t2:=Tryz.underlying2
 a2:=Tryz.isAgg2
 z2:=Tryz.sizeOf2
 v2:=Tryz.zeroValue2
 t3:=Tryz.underlying3
 a3:=Tryz.isAgg3
 z3:=Tryz.sizeOf3
 v3:=Tryz.zeroValue3
 t4:=Tryz.underlying4
 a4:=Tryz.isAgg4
 z4:=Tryz.sizeOf4
 v4:=Tryz.zeroValue4
 t5:=Tryz.underlying5
 a5:=Tryz.isAgg5
 z5:=Tryz.sizeOf5
 v5:=Tryz.zeroValue5
 t9:=Tryz.underlying9
 a9:=Tryz.isAgg9
 z9:=Tryz.sizeOf9
 v9:=Tryz.zeroValue9
 t20:=Tryz.underlying20
 a20:=Tryz.isAgg20
 z20:=Tryz.sizeOf20
 v20:=Tryz.zeroValue20
 t37:=Tryz.underlying22
 a37:=Tryz.isAgg22
 z37:=Tryz.sizeOf22
 v37:=Tryz.zeroValue22
 t46:=Tryz.underlying208
 a46:=Tryz.isAgg208
 z46:=Tryz.sizeOf208
 v46:=Tryz.zeroValue208
 t51:=Tryz.underlying232
 a51:=Tryz.isAgg232
 z51:=Tryz.sizeOf232
 v51:=Tryz.zeroValue232
 t53:=Tryz.underlying235
 a53:=Tryz.isAgg235
 z53:=Tryz.sizeOf235
 v53:=Tryz.zeroValue235
 t171:=Tryz.underlying275
 a171:=Tryz.isAgg275
 z171:=Tryz.sizeOf275
 v171:=Tryz.zeroValue275
 t173:=Tryz.underlying278
 a173:=Tryz.isAgg278
 z173:=Tryz.sizeOf278
 v173:=Tryz.zeroValue278
 t212:=Tryz.underlying281
 a212:=Tryz.isAgg281
 z212:=Tryz.sizeOf281
 v212:=Tryz.zeroValue281
 t213:=Tryz.underlying282
 a213:=Tryz.isAgg282
 z213:=Tryz.sizeOf282
 t232:=Tryz.underlying285
 a232:=Tryz.isAgg285
 z232:=Tryz.sizeOf285
 v232:=Tryz.zeroValue285
 t233:=Tryz.underlying286
 a233:=Tryz.isAgg286
 z233:=Tryz.sizeOf286
 v233:=Tryz.zeroValue286
 g17:=by kernel_rfl
 g18:=by kernel_rfl
 g19:=by kernel_rfl
 i0:=by kernel_rfl
 i2:=by kernel_rfl
 i3:=by kernel_rfl
 i4:=by kernel_rfl
 i5:=by kernel_rfl
 i9:=by kernel_rfl
 i20:=by kernel_rfl
 i37:=by kernel_rfl
 i46:=by kernel_rfl
 i51:=by kernel_rfl
 i53:=by kernel_rfl
 i171:=by kernel_rfl
 i173:=by kernel_rfl
 i212:=by kernel_rfl
 i232:=by kernel_rfl
 i233:=by kernel_rfl
 m17:=by kernel_rfl
 m18:=by kernel_rfl
 m19:=by kernel_rfl }
open Go.RowKit Go.Sort Go.Lib in
theorem Tryz.strconv_Itoa (n : Int) (h0 : -9223372036854775808 ≤ n) (h1 : n ≤ 9223372036854775807) (w : World) (htab : Lib.TabIs Tryz.prog w "internal/strconv.uint64pow10" .u64 Lib.pow10Tab) :
  Calls Tryz.prog 268 #[.int .i64 n] w fun e w'=>e= .returned (.string ⟨(Lib.itoa n).toArray⟩)∧∃k os,w'=grow (w.drewN k) os:=Any.strconv_Itoa Tryz.adF n h0 h1 w htab
def Tryz.O2:Go.Shelf.Ren:=⟨fun |172=>240 |244=>266 |245=>267 |247=>277 |279=>278 |280=>279 |281=>280 |282=>281 |287=>286 |316=>265 |171=>268 |205=>287 |321=>290 |322=>291 |243=>282 |246=>288 |283=>292 |284=>293 |285=>294 |286=>295 |129=>297 |317=>296 |318=>298 |319=>299 |320=>300 |337=>301 |338=>302 |n=>n,fun |9=>9 |3=>3 |75=>91 |76=>92 |4=>4 |5=>5 |167=>257 |37=>22 |0=>0 |85=>258 |2=>2 |168=>260 |53=>235 |175=>264 |46=>208 |210=>267 |127=>131 |145=>274 |143=>272 |21=>21 |171=>275 |173=>278 |212=>281 |51=>232 |20=>20 |213=>282 |232=>285 |233=>286 |80=>94 |n=>n,fun |15=>3 |16=>4 |17=>5 |18=>6 |19=>7 |n=>n⟩
theorem Tryz.adG:Go.Proofs.LaysC.n172 Tryz.prog Tryz.O2:= {
 mixed:=by kernel_rfl
 f129:=Tryz.func297.trans (congrArg some (by kernel_rfl))
 f171:=Tryz.func268.trans (congrArg some (by kernel_rfl))
 f172:=Tryz.func240.trans (congrArg some (by kernel_rfl))
 f205:=Tryz.func287.trans (congrArg some (by kernel_rfl))
 f243:=Tryz.func282.trans (congrArg some (by kernel_rfl))
 f244:=Tryz.func266.trans (congrArg some (by kernel_rfl))
 f245:=Tryz.func267.trans (congrArg some (by kernel_rfl))
 f246:=Tryz.func288.trans (congrArg some (by kernel_rfl))
 f247:=Tryz.func277.trans (congrArg some (by kernel_rfl))
 f279:=Tryz.func278.trans (congrArg some (by kernel_rfl))
 f280:=Tryz.func279.trans (congrArg some (by kernel_rfl))
 f281:=Tryz.func280.trans (congrArg some (by kernel_rfl))
 f282:=Tryz.func281.trans (congrArg some (by kernel_rfl))
 f283:=Tryz.func292.trans (congrArg some (by kernel_rfl))
 f284:=Tryz.func293.trans (congrArg some (by kernel_rfl))
 f285:=Tryz.func294.trans (congrArg some (by kernel_rfl))
 f286:=Tryz.func295.trans (congrArg some (by kernel_rfl))
 f287:=Tryz.func286.trans (congrArg some (by kernel_rfl))
 f316:=Tryz.func265.trans (congrArg some (by kernel_rfl))
 f317:=Tryz.func296.trans (congrArg some (by kernel_rfl))
 f318:=Tryz.func298.trans (congrArg some (by kernel_rfl))
 f319:=Tryz.func299.trans (congrArg some (by kernel_rfl))
 f320:=Tryz.func300.trans (congrArg some (by kernel_rfl))
 f321:=Tryz.func290.trans (congrArg some (by kernel_rfl))
 f322:=Tryz.func291.trans (congrArg some (by kernel_rfl))
 f337:=Tryz.func301.trans (congrArg some (by kernel_rfl))
 f338:=Tryz.func302.trans (congrArg some (by kernel_rfl))
 t0:=Tryz.underlying0
 a0:=Tryz.isAgg0
 z0:=Tryz.sizeOf0
 v0:=Tryz.zeroValue0
 t2:=Tryz.underlying2
 a2:=Tryz.isAgg2
 z2:=Tryz.sizeOf2
 v2:=Tryz.zeroValue2
 t3:=Tryz.underlying3
 a3:=Tryz.isAgg3
 z3:=Tryz.sizeOf3
 v3:=Tryz.zeroValue3
 t4:=Tryz.underlying4
 a4:=Tryz.isAgg4
 z4:=Tryz.sizeOf4
 v4:=Tryz.zeroValue4
 t5:=Tryz.underlying5
 a5:=Tryz.isAgg5
 z5:=Tryz.sizeOf5
 v5:=Tryz.zeroValue5
 t9:=Tryz.underlying9
 a9:=Tryz.isAgg9
 z9:=Tryz.sizeOf9
 v9:=Tryz.zeroValue9
 t20:=Tryz.underlying20
 a20:=Tryz.isAgg20
 z20:=Tryz.sizeOf20
 v20:=Tryz.zeroValue20
 t21:=Tryz.underlying21
 a21:=Tryz.isAgg21
 z21:=Tryz.sizeOf21
 v21:=Tryz.zeroValue21
 t37:=Tryz.underlying22
 a37:=Tryz.isAgg22
 z37:=Tryz.sizeOf22
 v37:=Tryz.zeroValue22
 t46:=Tryz.underlying208
 a46:=Tryz.isAgg208
 z46:=Tryz.sizeOf208
 v46:=Tryz.zeroValue208
 t51:=Tryz.underlying232
 a51:=Tryz.isAgg232
 z51:=Tryz.sizeOf232
 v51:=Tryz.zeroValue232
 t53:=Tryz.underlying235
 a53:=Tryz.isAgg235
 z53:=Tryz.sizeOf235
 v53:=Tryz.zeroValue235
 t75:=Tryz.underlying91
 a75:=Tryz.isAgg91
 z75:=Tryz.sizeOf91
 v75:=Tryz.zeroValue91
 t76:=Tryz.underlying92
 a76:=Tryz.isAgg92
 z76:=Tryz.sizeOf92
 v76:=Tryz.zeroValue92
 t85:=Tryz.underlying258
 a85:=Tryz.isAgg258
 z85:=Tryz.sizeOf258
 v85:=Tryz.zeroValue258
 t127:=Tryz.underlying131
 a127:=Tryz.isAgg131
 z127:=Tryz.sizeOf131
 v127:=Tryz.zeroValue131
 t143:=Tryz.underlying272
 a143:=Tryz.isAgg272
 z143:=Tryz.sizeOf272
 v143:=Tryz.zeroValue272
 t145:=Tryz.underlying274
 a145:=Tryz.isAgg274
 z145:=Tryz.sizeOf274
 v145:=Tryz.zeroValue274
 t167:=Tryz.underlying257
 a167:=Tryz.isAgg257
 z167:=Tryz.sizeOf257
 v167:=Tryz.zeroValue257
 t168:=Tryz.underlying260
 a168:=Tryz.isAgg260
 z168:=Tryz.sizeOf260
 v168:=Tryz.zeroValue260
 t171:=Tryz.underlying275
 a171:=Tryz.isAgg275
 z171:=Tryz.sizeOf275
 v171:=Tryz.zeroValue275
 t173:=Tryz.underlying278
 a173:=Tryz.isAgg278
 z173:=Tryz.sizeOf278
 v173:=Tryz.zeroValue278
 t175:=Tryz.underlying264
 a175:=Tryz.isAgg264
 z175:=Tryz.sizeOf264
 v175:=Tryz.zeroValue264
 t210:=Tryz.underlying267
 a210:=Tryz.isAgg267
 z210:=Tryz.sizeOf267
 v210:=Tryz.zeroValue267
 t212:=Tryz.underlying281
 a212:=Tryz.isAgg281
 z212:=Tryz.sizeOf281
 v212:=Tryz.zeroValue281
 t213:=Tryz.underlying282
 a213:=Tryz.isAgg282
 z213:=Tryz.sizeOf282
 t232:=Tryz.underlying285
 a232:=Tryz.isAgg285
 z232:=Tryz.sizeOf285
 v232:=Tryz.zeroValue285
 t233:=Tryz.underlying286
 a233:=Tryz.isAgg286
 z233:=Tryz.sizeOf286
 v233:=Tryz.zeroValue286
 g15:=by kernel_rfl
 g16:=by kernel_rfl
 g17:=by kernel_rfl
 g18:=by kernel_rfl
 g19:=by kernel_rfl
 t80:=Tryz.underlying94
 a80:=Tryz.isAgg94
 z80:=Tryz.sizeOf94
 v80:=Tryz.zeroValue94
 i0:=by kernel_rfl
 i2:=by kernel_rfl
 i3:=by kernel_rfl
 i4:=by kernel_rfl
 i5:=by kernel_rfl
 i9:=by kernel_rfl
 i20:=by kernel_rfl
 i21:=by kernel_rfl
 i37:=by kernel_rfl
 i46:=by kernel_rfl
 i51:=by kernel_rfl
 i53:=by kernel_rfl
 i75:=by kernel_rfl
 i76:=by kernel_rfl
 i80:=by kernel_rfl
 i85:=by kernel_rfl
 i127:=by kernel_rfl
 i143:=by kernel_rfl
 i145:=by kernel_rfl
 i167:=by kernel_rfl
 i168:=by kernel_rfl
 i171:=by kernel_rfl
 i173:=by kernel_rfl
 i175:=by kernel_rfl
 i210:=by kernel_rfl
 i212:=by kernel_rfl
 i232:=by kernel_rfl
 i233:=by kernel_rfl
 m15:=by kernel_rfl
 m16:=by kernel_rfl
 m17:=by kernel_rfl
 m18:=by kernel_rfl
 m19:=by kernel_rfl
 c0:=by kernel_rfl
 c2:=by kernel_rfl
 c3:=by kernel_rfl
 c4:=by kernel_rfl
 c5:=by kernel_rfl
 c9:=by kernel_rfl
 c20:=by kernel_rfl
 c21:=by kernel_rfl
 c37:=by kernel_rfl
 c46:=by kernel_rfl
 c51:=by kernel_rfl
 c53:=by kernel_rfl
 c75:=by kernel_rfl
 c76:=by kernel_rfl
 c80:=by kernel_rfl
 c85:=by kernel_rfl
 c127:=by kernel_rfl
 c143:=by kernel_rfl
 c145:=by kernel_rfl
 c167:=by kernel_rfl
 c168:=by kernel_rfl
 c171:=by kernel_rfl
 c173:=by kernel_rfl
 c175:=by kernel_rfl
 c210:=by kernel_rfl
 c212:=by kernel_rfl
 c213:=by kernel_rfl
 c232:=by kernel_rfl
 c233:=by kernel_rfl }
open Go.RowKit in
theorem Tryz.strconv_Atoi_err_var (s : ByteArray) (hl : s.size ≤ 18) (h : Lib.atoi s.data.toList = none) (tp : TypeId) (p : Value) (w : World) (hvar : w.var? Tryz.prog "strconv.ErrSyntax" = some #[.iface tp p]) :
  Calls Tryz.prog 240 #[.string s] w fun e w'=>∃N,e= .returned (.tuple #[.int .i64 0,.iface 260 (.pointer (some ⟨N,0,none⟩))])∧w.heap.size≤N∧w'.heap[N]?=some (.cells #[.string ⟨#[65,116,111,105]⟩,.string s,.iface tp p] 267 (0,0))∧Below w.heap.size w w':=Any.strconv_Atoi_err_var Tryz.adG s hl h tp p w hvar
def Tryz.S3:Go.Shelf.Ren:=⟨fun |146=>192 |221=>233 |268=>261 |138=>262 |143=>263 |195=>274 |197=>215 |218=>275 |219=>276 |260=>249 |217=>271 |225=>253 |224=>252 |267=>285 |266=>283 |314=>289 |n=>n,fun |9=>9 |31=>23 |3=>3 |4=>4 |0=>0 |105=>181 |21=>21 |5=>5 |46=>208 |119=>251 |139=>254 |138=>253 |146=>233 |51=>232 |n=>n,fun |1=>2 |3=>0 |4=>1 |n=>n⟩
theorem Tryz.afN:Go.Proofs.Lays.n146 Tryz.prog Tryz.S3:= {
 mixed:=by kernel_rfl
 f138:=Tryz.func262.trans (congrArg some (by kernel_rfl))
 f143:=Tryz.func263.trans (congrArg some (by kernel_rfl))
 f146:=Tryz.func192.trans (congrArg some (by kernel_rfl))
 f195:=Tryz.func274.trans (congrArg some (by kernel_rfl))
 f197:=Tryz.func215.trans (congrArg some (by kernel_rfl))
 f217:=Tryz.func271.trans (congrArg some (by kernel_rfl))
 f218:=Tryz.func275.trans (congrArg some (by kernel_rfl))
 f219:=Tryz.func276.trans (congrArg some (by kernel_rfl))
 f221:=Tryz.func233.trans (congrArg some (by kernel_rfl))
 f224:=Tryz.func252.trans (congrArg some (by kernel_rfl))
 f225:=Tryz.func253.trans (congrArg some (by kernel_rfl))
 f260:=Tryz.func249.trans (congrArg some (by kernel_rfl))
 f266:=Tryz.func283.trans (congrArg some (by kernel_rfl))
 f267:=Tryz.func285.trans (congrArg some (by kernel_rfl))
 f268:=Tryz.func261.trans (congrArg some (by kernel_rfl))
 f314:=Tryz.func289.trans (congrArg some (by kernel_rfl))
 t0:=Tryz.underlying0
 a0:=Tryz.isAgg0
 z0:=Tryz.sizeOf0
 v0:=Tryz.zeroValue0
 t3:=Tryz.underlying3
 a3:=Tryz.isAgg3
 z3:=Tryz.sizeOf3
 v3:=Tryz.zeroValue3
 t4:=Tryz.underlying4
 a4:=Tryz.isAgg4
 z4:=Tryz.sizeOf4
 v4:=Tryz.zeroValue4
 t5:=Tryz.underlying5
 a5:=Tryz.isAgg5
 z5:=Tryz.sizeOf5
 v5:=Tryz.zeroValue5
 t9:=Tryz.underlying9
 a9:=Tryz.isAgg9
 z9:=Tryz.sizeOf9
 v9:=Tryz.zeroValue9
 t21:=Tryz.underlying21
 a21:=Tryz.isAgg21
 z21:=Tryz.sizeOf21
 v21:=Tryz.zeroValue21
 t31:=Tryz.underlying23
 a31:=Tryz.isAgg23
 z31:=Tryz.sizeOf23
 v31:=Tryz.zeroValue23
 t46:=Tryz.underlying208
 a46:=Tryz.isAgg208
 z46:=Tryz.sizeOf208
 v46:=Tryz.zeroValue208
 t51:=Tryz.underlying232
 a51:=Tryz.isAgg232
 z51:=Tryz.sizeOf232
 v51:=Tryz.zeroValue232
 t105:=Tryz.underlying181
 a105:=Tryz.isAgg181
 z105:=Tryz.sizeOf181
 v105:=Tryz.zeroValue181
 t119:=Tryz.underlying251
 a119:=Tryz.isAgg251
 z119:=Tryz.sizeOf251
 t138:=Tryz.underlying253
 a138:=Tryz.isAgg253
 z138:=Tryz.sizeOf253
 v138:=Tryz.zeroValue253
 t139:=Tryz.underlying254
 a139:=Tryz.isAgg254
 z139:=Tryz.sizeOf254
 v139:=Tryz.zeroValue254
 t146:=Tryz.underlying233
 a146:=Tryz.isAgg233
 z146:=Tryz.sizeOf233
 v146:=Tryz.zeroValue233
 g1:=by kernel_rfl
 g3:=by kernel_rfl
 g4:=by kernel_rfl }
open Go.RowKit Go.Lib in
theorem Tryz.strings_Split (s sep:ByteArray) (m:Int) (w:World) (hs:s.size<4294967281) (hm:w.cell? ⟨2,0,none⟩=some (.int .i64 m)) (h1:1≤sep.size):
  Calls Tryz.prog 192 #[.string s,.string sep] w fun e w'=>
   e= .returned (.slice (some ⟨w.heap.size,0,none⟩) (Lib.countB s sep+1) (Lib.countB s sep+1))∧w'=w.alloc (.cells ((Lib.splitB sep 0 (Lib.countB s sep) s).map Value.string).toArray 9):=Any.strings_Split Tryz.afN (by kernel_rfl) s sep m w hs hm h1
end Go.Proofs
namespace Go.Proofs.YtkgpljpmdkflmaaGreatDoor
namespace GL
open Go.RowKit
def OV (T:bb) (W w':World):bb:=fun b=>if b<W.heap.size then T b else match w'.heap[b]? with
 |some (.cells cs e fr)=>some (.ro cs e fr)
 |_=>none
theorem zE {T:bb}{W w':World}{b:Nat}(h:b<W.heap.size):OV T W w' b=T b:=by unfold OV;rw [if_pos h]
theorem ads {T:bb}{W w':World}{b:Nat}(h:W.heap.size≤b) {cs:Array Value}{e:TypeId}{fr:Nat×Nat}(hb:w'.heap[b]?=some (.cells cs e fr)):OV T W w' b=some (.ro cs e fr):=by
 unfold OV;rw [if_neg (by omega),hb]
theorem WW {W w':World}{T:bb}{β:Nat→Nat}(hT:WT T W) (hN:UM T) (hB:Below W.heap.size W w'):aay W T β 0 (OV T W w') w' where
 typed:=fun b k hb=>by
  by_cases h:b<W.heap.size
  ·rw [zE h] at hb
   exact BK.qp (hT b k hb) (hB.block b h)
  ·unfold OV at hb
   rw [if_neg h] at hb
   split at hb
   ·rename_i cs e fr hc;cases hb;exact hc
   ·cases hb
 aiR:= {
  no:=fun b ek n cs hb=>by
   by_cases h:b<W.heap.size
   ·rw [zE h] at hb;exact hN.no b ek n cs hb
   ·unfold OV at hb
    rw [if_neg h] at hb
    split at hb<;>cases hb
  oX:=fun g hg=>by
   obtain⟨cs,e,fr,h1,h2⟩:=hN.oX g hg
   exact⟨cs,e,fr,by rw [zE (BK.lt (hT _ _ h1))];exact h1,h2⟩ }
 new:=fun b hb=>zE hb
 frame:=fun b hb _ _=>hB.block b hb
 gd:=hB.size
 os:=hB.os
 tape:=hB.tape
 output:=hB.output
theorem Has.lib {f:FuncId}{A:List AP}{pre:APs.Ty A→Prop}{r:APs.Ty A→AV}(hE:Enters Tryz.prog f) (qq:∀x,(r x).boxes=[]∧(r x).oi=true)
  (h:∀x,pre x→∀(W:World) (T:bb) (β:Nat→Nat) (vs:List Value),WT T W→UM T→sc T β (APs.avs A x) vs→Calls Tryz.prog f vs.toArray W fun e w'=>∃v,e= .returned v∧Below W.heap.size W w'∧(r x).rel (OV T W w') β v):Has Tryz.prog f (X0 A pre r):=by
 refine⟨fun x y hp=>?_,hE⟩
 intro W T β vs hT hN c7 hbx cq
 refine (h x hp W T β vs hT hN c7).mono fun e w' ⟨v,he,hB,hr⟩=>?_
 refine⟨v,r x,[],OV T W w',β,he,⟨(),trivial,rfl,rfl,rfl⟩,hr,⟨by rw [(qq x).1];simp,(qq x).2⟩,WW hT hN hB,?_⟩
 exact { len:=ZB5 _,same:=fun i hi=>rfl,at_:=fun i av hi _=>by simp at hi,inj:=fun i j av av' hi _ _ _ _=>by simp at hi }
theorem below_freeze (W w:World) (h:Below W.heap.size W w) (a:Addr) (n:Nat) (ha:W.heap.size≤a.block):Below W.heap.size W (w.freeze a n) where
 os:=by simp only [World.freeze];split<;>exact h.os
 tape:=by simp only [World.freeze];split<;>exact h.tape
 output:=by simp only [World.freeze];split<;>exact h.output
 size:=by
  simp only [World.freeze]
  split
  ·exact h.size
  ·simp only [Array.size_modify];exact h.size
 block:=fun k hk=>by
  simp only [World.freeze]
  split
  ·exact h.block k hk
  ·simp only [Array.getElem?_modify]
   rw [if_neg (by omega)]
   exact h.block k hk
theorem UH (W:World) (e:TypeId) (s:ByteArray):Below W.heap.size W (Lib.bytesWorld W e s):=
 below_freeze W _ ((Below.refl _ _).drew.alloc (ZB5 _) _) _ _ (ZB5 _)
theorem X6 (W:World) (n:Nat) (os:Array Obj):Below W.heap.size W (Go.Sort.grow (W.drewN n) os) where
 os:=rfl
 tape:=rfl
 output:=rfl
 size:=by show W.heap.size≤(W.heap++os).size;simp
 block:=fun k hk=>by
  show (W.heap++os)[k]?=_
  exact Array.getElem?_append_left hk
theorem PK {T:bb}{W:World}(hT:WT T W) (hN:UM T) {g:Nat}{p:Array Value→Prop}(h:(g,p)∈zV):∃cs e fr,W.heap[g]?=some (.cells cs e fr)∧p cs:=by
 obtain⟨cs,e,fr,h1,h2⟩:=hN.oX _ h
 exact⟨cs,e,fr,hT _ _ h1,h2⟩
def jc (s:ByteArray):Int×Bool:=match Lib.atoi s.data.toList with
 |some n=>(n,true)
 |none=>(0,false)
def X4:ct:=X0 [.s .str] (fun s=>s.size≤18) fun s=>.t [.s (.int (jc s).1),.s (.er (jc s).2)]
theorem ahA:Has Tryz.prog 240 X4:=by
 refine Has.lib ⟨_,Tryz.func240,by rfl,by decide⟩ (fun x=>⟨rfl,rfl⟩) fun (s:ByteArray) (hp:s.size≤18) W T β vs hT hN c7=>?_
 obtain⟨v,rfl⟩:∃v,vs=[v]:=by
  match vs,c7 with
  |[v],_=>exact⟨v,rfl⟩
  |[],h=>exact h.elim
  |_::_::_,h=>exact h.2.elim
 have hv:v= .string s:=c7.1
 subst hv
 cases ha:Lib.atoi s.data.toList with
 |some n=>
  refine (Tryz.strconv_Atoi s n hp ha W).mono ?_
  rintro e w' ⟨rfl,t,rfl⟩
  refine⟨_,rfl,UH W _ t,?_⟩
  have e1:jc s=(n,true):=by unfold jc;rw [ha]
  show AV.rel _ _ (.t [.s (.int (jc s).1),.s (.er (jc s).2)]) _
  rw [e1]
  exact⟨_,rfl,rfl,rfl,trivial⟩
 |none=>
  obtain⟨cs,e,fr,h1,tp,p,rfl⟩:=PK hT hN (g:=3) (p:=fun cs=>∃t v,cs= #[.iface t v]) (by unfold zV;simp)
  have hvar : W.var? Tryz.prog "strconv.ErrSyntax" = some #[.iface tp p] := by
   have hg : Tryz.prog.globalNamed "strconv.ErrSyntax" = some 3 := by kernel_rfl
   simp [World.var?,hg,h1]
  refine (Tryz.strconv_Atoi_err_var s hp ha tp p W hvar).mono ?_
  rintro e w' ⟨N,rfl,_,_,hB⟩
  refine⟨_,rfl,hB,?_⟩
  have e1:jc s=(0,false):=by unfold jc;rw [ha]
  show AV.rel _ _ (.t [.s (.int (jc s).1),.s (.er (jc s).2)]) _
  rw [e1]
  exact⟨_,rfl,rfl,⟨_,_,rfl⟩,trivial⟩
def ad0 (n:Int):ByteArray:=⟨(Lib.itoa n).toArray⟩
def X3:ct:=X0 [.s .int] (fun n=>gL≤n∧n≤imax) fun n=>.s (.str (ad0 n))
theorem ahz:Has Tryz.prog 268 X3:=by
 refine Has.lib ⟨_,Tryz.func268,by rfl,by decide⟩ (fun x=>⟨rfl,rfl⟩) fun (n:Int) (hp:gL≤n∧n≤imax) W T β vs hT hN c7=>?_
 obtain⟨v,rfl⟩:∃v,vs=[v]:=by
  match vs,c7 with
  |[v],_=>exact⟨v,rfl⟩
  |[],h=>exact h.elim
  |_::_::_,h=>exact h.2.elim
 have hv:v= .int .i64 n:=c7.1
 subst hv
 obtain⟨cs,e,fr,h1,rfl⟩:=PK hT hN (g:=5) (p:=fun cs=>cs=(Lib.pow10Tab.map fun z=>Value.int .u64 z).toArray) (by unfold zV;simp)
 have hvar : Lib.TabIs Tryz.prog W "internal/strconv.uint64pow10" .u64 Lib.pow10Tab := by
  have hg : Tryz.prog.globalNamed "internal/strconv.uint64pow10" = some 5 := by kernel_rfl
  simp [Lib.TabIs,World.var?,hg,h1]
 refine (Tryz.strconv_Itoa n hp.1 hp.2 W hvar).mono ?_
 rintro e w' ⟨rfl,k,os,rfl⟩
 exact⟨_,rfl,X6 W k os,rfl⟩
theorem I6:∀l:List ByteArray,flat [.str 4096] l=l.map Value.string
 |[]=>rfl
 |x::l=>by rw [iT,I6 l];rfl
def ib (s sep:ByteArray):List ByteArray:=Lib.splitB sep 0 (Lib.countB s sep) s
def iG:ct:=X0 [.s .str,.s .str] (fun (s,sep)=>s.size≤1000000∧1≤sep.size) fun (s,sep)=>.s (.vw ab (ib s sep))
theorem FG:Has Tryz.prog 192 iG:=by
 refine Has.lib ⟨_,Tryz.func192,by rfl,by decide⟩ (fun x=>⟨rfl,rfl⟩) fun (x:ByteArray×ByteArray) (hp:x.1.size≤1000000∧1≤x.2.size) W T β vs hT hN c7=>?_
 obtain⟨s,sep⟩:=x
 obtain⟨v,u,rfl⟩:∃v u,vs=[v,u]:=by
  match vs,c7 with
  |[v,u],_=>exact⟨v,u,rfl⟩
  |[],h=>exact h.elim
  |[_],h=>exact h.2.elim
  |_::_::_::_,h=>exact h.2.2.elim
 have hv:v= .string s:=c7.1
 have hu:u= .string sep:=c7.2.1
 subst hv;subst hu
 obtain⟨cs,e,fr,h1,m,rfl⟩:=PK hT hN (g:=2) (p:=fun cs=>∃n,cs= #[.int .i64 n]) (by unfold zV;simp)
 have hm:W.cell? ⟨2,0,none⟩=some (.int .i64 m):=by rw [ry h1];rfl
 have hp1:s.size≤1000000:=hp.1
 have hs:s.size<4294967281:=by omega
 refine (Tryz.strings_Split s sep m W hs hm hp.2).mono ?_
 rintro e w' ⟨rfl,rfl⟩
 have hlen:(ib s sep).length=Lib.countB s sep+1:=Lib.splitB_all sep hp.2 0 _ s rfl
 refine⟨_,rfl,(Below.refl _ _).alloc (ZB5 _) _,?_⟩
 show (SV.vw ab (ib s sep)).rel _ β _
 refine .inr ⟨W.heap.size,0,Lib.countB s sep+1,_,_,_,?_,?_,ads (ZB5 _) (fr:=(0,0)) (Array.getElem?_push_size ..),?_⟩
 ·rw [hlen]
 ·rw [hlen];exact ZB5 _
 ·rw [I6]
  intro j v hj
  simpa [ib] using hj
def zO (sep:ByteArray) (l:List ByteArray):ByteArray:=⟨(Lib.join (l.map (·.data.toList)) sep.data.toList).toArray⟩
def kW:ct:=X0 [.s (.vz ab),.s .str] (fun (l,sep)=>(Lib.join (l.map (·.data.toList)) sep.data.toList).length≤1000000∧l.length≤1000000) fun (l,sep)=>.s (.str (zO sep l))
theorem PH:Has Tryz.prog 237 kW:=by
 refine Has.lib ⟨_,Tryz.func237,by rfl,by decide⟩ (fun x=>⟨rfl,rfl⟩) fun (x:List ByteArray×ByteArray) (hp:(Lib.join (x.1.map (·.data.toList)) x.2.data.toList).length≤1000000∧x.1.length≤1000000) W T β vs hT hN c7=>?_
 obtain⟨l,sep⟩:=x
 obtain⟨v,u,rfl⟩:∃v u,vs=[v,u]:=by
  match vs,c7 with
  |[v,u],_=>exact⟨v,u,rfl⟩
  |[],h=>exact h.elim
  |[_],h=>exact h.2.elim
  |_::_::_::_,h=>exact h.2.2.elim
 have hu:u= .string sep:=c7.2.1
 subst hu
 have hv:(SV.vz ab l).rel T β v:=c7.1
 rcases hv with ⟨rfl,p,cap,rfl⟩ |⟨b,o,cap,cs,rfl,hlc,dG,hw⟩
 ·refine (Tryz.strings_Join_none p cap sep W).mono ?_
  rintro e w' ⟨rfl,rfl⟩
  exact⟨_,rfl,Below.refl _ _,rfl⟩
 ·obtain⟨te,fr,hc⟩:=E9 hT dG
  have hp1:(Lib.join (l.map (·.data.toList)) sep.data.toList).length≤1000000:=hp.1
  have hp2:l.length≤1000000:=hp.2
  refine (Tryz.strings_Join b o cap l sep W (fun j x hj=>?_) ?_ (by omega) hlc (by omega)).mono ?_
  ·rw [ry hc]
   refine hw j _ ?_
   rw [I6,List.getElem?_map,hj];rfl
  ·rcases Nat.lt_or_ge b W.heap.size with h |h
   ·exact h
   ·rw [Array.getElem?_eq_none h] at hc;cases hc
  ·rintro e w' ⟨rfl,hB⟩
   exact⟨_,rfl,hB,rfl⟩
end GL
end Go.Proofs.YtkgpljpmdkflmaaGreatDoor
