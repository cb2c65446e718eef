/- Part 23 of the proof of a drawn law. -/
import Derived.Lib.CountLaws
import Derived.Lib.CutLaws
import Derived.Lib.IndexBytes
import Derived.Lib.IndexLaws
import Derived.Lib.Join
import Derived.Lib.SplitLaws
import Derived.Shelf.LaysC
import Derived.Shelf.LaysM
import Derived.Shelf.Strconv.Atoi
import Derived.Shelf.Strconv.ErrVar
import Derived.Shelf.Strconv.Itoa3
import Derived.Shelf.Strings.Cut
import Derived.Shelf.Strings.OnBuilder
import Derived.Shelf.Strings.Split
import Derived.Shelf.Strings.SplitShaped
import Derived.Sort.Grow
import Derived.Test.YtnkbdhldiinfdaaGreatDoorProg
import Derived.Test.YtnkbdhldiinfdaaGreatDoorPah
import Derived.Test.YtnkbdhldiinfdaaGreatDoorPao
set_option maxHeartbeats 20000000
set_option maxRecDepth 100000
set_option linter.all false
namespace Go.Proofs.YtnkbdhldiinfdaaGreatDoor
namespace GL
def eH:TI:=⟨false,1,.other,[.pointer none],[],[]⟩
theorem ml:ib Tryz.prog 15 eH:=⟨by show Sh Tryz.prog 15=some (false,1);kernel_rfl,by show zeroOf Tryz.prog 15=some [.pointer none];kernel_rfl,by simp [eH],.inl rfl,trivial⟩
def fQ:TI:=⟨false,1,.other,[.pointer none],[],[]⟩
theorem qk:ib Tryz.prog 16 fQ:=⟨by show Sh Tryz.prog 16=some (false,1);kernel_rfl,by show zeroOf Tryz.prog 16=some [.pointer none];kernel_rfl,by simp [fQ],.inl rfl,trivial⟩
def rB:TI:=⟨false,1,.other,[.pointer none],[],[]⟩
theorem KY:ib Tryz.prog 17 rB:=⟨by show Sh Tryz.prog 17=some (false,1);kernel_rfl,by show zeroOf Tryz.prog 17=some [.pointer none];kernel_rfl,by simp [rB],.inl rfl,trivial⟩
def pz:TI:=⟨false,1,.other,[.pointer none],[],[]⟩
theorem HO:ib Tryz.prog 55 pz:=⟨by show Sh Tryz.prog 55=some (false,1);kernel_rfl,by show zeroOf Tryz.prog 55=some [.pointer none];kernel_rfl,by simp [pz],.inl rfl,trivial⟩
def pA:TI:=⟨false,1,.other,[.pointer none],[],[]⟩
theorem HP:ib Tryz.prog 74 pA:=⟨by show Sh Tryz.prog 74=some (false,1);kernel_rfl,by show zeroOf Tryz.prog 74=some [.pointer none];kernel_rfl,by simp [pA],.inl rfl,trivial⟩
def ov:TI:=⟨false,1,.other,[.pointer none],[],[]⟩
theorem EU:ib Tryz.prog 92 ov:=⟨by show Sh Tryz.prog 92=some (false,1);kernel_rfl,by show zeroOf Tryz.prog 92=some [.pointer none];kernel_rfl,by simp [ov],.inl rfl,trivial⟩
def jc:TI:=⟨false,1,.other,[.pointer none],[],[]⟩
theorem vo:ib Tryz.prog 145 jc:=⟨by show Sh Tryz.prog 145=some (false,1);kernel_rfl,by show zeroOf Tryz.prog 145=some [.pointer none];kernel_rfl,by simp [jc],.inl rfl,trivial⟩
def ou:TI:=⟨false,1,.other,[.pointer none],[],[]⟩
theorem ET:ib Tryz.prog 157 ou:=⟨by show Sh Tryz.prog 157=some (false,1);kernel_rfl,by show zeroOf Tryz.prog 157=some [.pointer none];kernel_rfl,by simp [ou],.inl rfl,trivial⟩
def F6:TI:=⟨false,1,.other,[.pointer none],[],[]⟩
theorem adl:ib Tryz.prog 178 F6:=⟨by show Sh Tryz.prog 178=some (false,1);kernel_rfl,by show zeroOf Tryz.prog 178=some [.pointer none];kernel_rfl,by simp [F6],.inl rfl,trivial⟩
def xL:TI:=⟨false,1,.other,[.pointer none],[],[]⟩
theorem WN:ib Tryz.prog 184 xL:=⟨by show Sh Tryz.prog 184=some (false,1);kernel_rfl,by show zeroOf Tryz.prog 184=some [.pointer none];kernel_rfl,by simp [xL],.inl rfl,trivial⟩
def ow:TI:=⟨false,1,.other,[.pointer none],[],[]⟩
theorem EV:ib Tryz.prog 206 ow:=⟨by show Sh Tryz.prog 206=some (false,1);kernel_rfl,by show zeroOf Tryz.prog 206=some [.pointer none];kernel_rfl,by simp [ow],.inl rfl,trivial⟩
def rA:TI:=⟨false,1,.other,[.pointer none],[],[]⟩
theorem KX:ib Tryz.prog 212 rA:=⟨by show Sh Tryz.prog 212=some (false,1);kernel_rfl,by show zeroOf Tryz.prog 212=some [.pointer none];kernel_rfl,by simp [rA],.inl rfl,trivial⟩
def iV:TI:=⟨false,1,.other,[.pointer none],[],[]⟩
theorem uE:ib Tryz.prog 237 iV:=⟨by show Sh Tryz.prog 237=some (false,1);kernel_rfl,by show zeroOf Tryz.prog 237=some [.pointer none];kernel_rfl,by simp [iV],.inl rfl,trivial⟩
def gQ:TI:=⟨false,1,.other,[.pointer none],[],[]⟩
theorem sq:ib Tryz.prog 259 gQ:=⟨by show Sh Tryz.prog 259=some (false,1);kernel_rfl,by show zeroOf Tryz.prog 259=some [.pointer none];kernel_rfl,by simp [gQ],.inl rfl,trivial⟩
def ahb:TypeId→Option TI
 |15=>some eH
 |16=>some fQ
 |17=>some rB
 |55=>some pz
 |74=>some pA
 |92=>some ov
 |145=>some jc
 |157=>some ou
 |178=>some F6
 |184=>some xL
 |206=>some ow
 |212=>some rA
 |237=>some iV
 |259=>some gQ
 |t=>tab t
theorem afz:∀t i,ahb t=some i→ib Tryz.prog t i:=by
 intro t i h
 unfold ahb at h
 split at h
 ·cases h;exact ml
 ·cases h;exact qk
 ·cases h;exact KY
 ·cases h;exact HO
 ·cases h;exact HP
 ·cases h;exact EU
 ·cases h;exact vo
 ·cases h;exact ET
 ·cases h;exact adl
 ·cases h;exact WN
 ·cases h;exact EV
 ·cases h;exact KX
 ·cases h;exact uE
 ·cases h;exact sq
 ·exact acu _ _ h
def mkEI (n:Nat) (l:List (FuncId×cn)) (ex wr pt:Nat→Bool):Env:=⟨n,ahb,look l,ex,wr,pt⟩
theorem oT {n:Nat}{l:List (FuncId×cn)}{ex wr pt:Nat→Bool}(h:gN Tryz.prog l):AW Tryz.prog (mkEI n l ex wr pt):=⟨afz,λ_ _ hc=>H0 h hc⟩
theorem Has.zB (ex wr pt:Nat→Bool) {l:List (FuncId×cn)}(hl:gN Tryz.prog l) {f:FuncId}{fn:Func}{cd:Code}{C:cn}(hf:Tryz.prog.funcs[f]?=some fn)
  (h : ∀ x y, C.pre x y → vc Tryz.prog fn.ntmps (sem (mkEI fn.ntmps l ex wr pt)) cd (entry (APs.avs C.A x) (APs.avs C.B y)) (endQ (mkEI fn.ntmps l ex wr pt).sh fn.results.toList C.B.length C.mv (fun r os => ∃ z, C.φ x y z ∧ r = C.r x y z ∧ os = C.o x y z ∧ os.length = C.B.length + C.nf))) (hb : fn.body = some cd := by exact rfl) (hnm : fn.name ≠ "runtime.NumGoroutine" := by decide) (hlen : C.A.length ≤ fn.ntmps := by exact zqNlb rfl) : Has Tryz.prog f C :=
 ⟨wj.of (oT hl) mixed hf hb rfl hlen h,fn,hf,by rw [hb];rfl,hnm⟩
theorem Has.WR (ex wr pt:Nat→Bool) {l:List (FuncId×cn)}(hl:gN Tryz.prog l) {f:FuncId}{fn:Func}{cd:Code}{C:cn}(hf:Tryz.prog.funcs[f]?=some fn)
  (h : ∀ x y, C.pre x y → vc Tryz.prog fn.ntmps (sem (mkEI fn.ntmps l ex wr pt)) cd (entry (APs.avs C.A x) (APs.avs C.B y)) (endQ (mkEI fn.ntmps l ex wr pt).sh fn.results.toList C.B.length C.mv (fun r os => ∃ z j, C.φ x y z ∧ r = C.r x y z ∧ os ++ List.replicate j .zz = C.o x y z ∧ (C.o x y z).length = C.B.length + C.nf))) (hb : fn.body = some cd := by exact rfl) (hnm : fn.name ≠ "runtime.NumGoroutine" := by decide) (hlen : C.A.length ≤ fn.ntmps := by exact zqNlb rfl) : Has Tryz.prog f C := by
 refine⟨λx y hp=>?_,fn,hf,by rw [hb];rfl,hnm⟩
 have hx:(APs.avs C.A x).length≤fn.ntmps:=by rw [APs.fE];exact hlen
 have hy:(APs.avs C.B y).length=C.B.length:=APs.fE C.B y
 refine TC.Y4 (TC.tv (P:=Tryz.prog) (N:=fn.ntmps) (S:=sem (mkEI fn.ntmps l ex wr pt)) (sh:=(mkEI fn.ntmps l ex wr pt).sh) (f:=f) (fn:=fn) (cd:=cd) (args:=APs.avs C.A x) (bs:=APs.avs C.B y) (mv:=C.mv) (post:=λr os=>∃z j,C.φ x y z∧r=C.r x y z∧os++List.replicate j .zz=C.o x y z∧(C.o x y z).length=C.B.length+C.nf) mixed (oz (oT (n:=fn.ntmps) (ex:=ex) (wr:=wr) (pt:=pt) hl)) (Env.DO (oT (n:=fn.ntmps) (ex:=ex) (wr:=wr) (pt:=pt) hl)) hf hb rfl hx (by rw [hy];exact h x y hp)) ?_
 rintro r os ⟨z,j,h1,h2,h3,h4⟩
 exact⟨j,z,h1,h2,h3,by rw [h3];exact h4⟩
theorem Has.al9 (ex wr pt:Nat→Bool) {l:List (FuncId×cn)}(hl:gN Tryz.prog l) {f:FuncId}{fn:Func}{cd:Code}{C:cn}(hf:Tryz.prog.funcs[f]?=some fn)
  (h : ∀ x y, C.pre x y → vc Tryz.prog fn.ntmps (sem (mkEI fn.ntmps l ex wr pt)) cd (entry (APs.avs C.A x) (APs.avs C.B y)) (endQ (mkEI fn.ntmps l ex wr pt).sh fn.results.toList C.B.length C.mv (fun r os => ∃ z j, C.φ x y z ∧ Wk (C.r x y z) r ∧ os ++ List.replicate j .zz = C.o x y z ∧ (C.o x y z).length = C.B.length + C.nf))) (hb : fn.body = some cd := by exact rfl) (hnm : fn.name ≠ "runtime.NumGoroutine" := by decide) (hlen : C.A.length ≤ fn.ntmps := by exact zqNlb rfl) : Has Tryz.prog f C := by
 refine⟨λx y hp=>?_,fn,hf,by rw [hb];rfl,hnm⟩
 have hx:(APs.avs C.A x).length≤fn.ntmps:=by rw [APs.fE];exact hlen
 have hy:(APs.avs C.B y).length=C.B.length:=APs.fE C.B y
 refine TC.aiA (TC.tv (P:=Tryz.prog) (N:=fn.ntmps) (S:=sem (mkEI fn.ntmps l ex wr pt)) (sh:=(mkEI fn.ntmps l ex wr pt).sh) (f:=f) (fn:=fn) (cd:=cd) (args:=APs.avs C.A x) (bs:=APs.avs C.B y) (mv:=C.mv) (post:=λr os=>∃z j,C.φ x y z∧Wk (C.r x y z) r∧os++List.replicate j .zz=C.o x y z∧(C.o x y z).length=C.B.length+C.nf) mixed (oz (oT (n:=fn.ntmps) (ex:=ex) (wr:=wr) (pt:=pt) hl)) (Env.DO (oT (n:=fn.ntmps) (ex:=ex) (wr:=wr) (pt:=pt) hl)) hf hb rfl hx (by rw [hy];exact h x y hp)) ?_
 rintro r os ⟨z,j,h1,h2,h3,h4⟩
 exact⟨C.r x y z,j,h2,z,h1,rfl,h3,by rw [h3];exact h4⟩
theorem lW {l:List (FuncId×cn)}{n:Nat}{ex wr pt:Nat→Bool}(hl:gN Tryz.prog l) {τ:St}{Q':o6}{cd:Code}{ι:Type}(bZ:List fJ) (J:ι→AO) (φ:ι→Prop) (μ:ι→Nat) (x0:ι) (sg0:List (Nat×Nat)) (h0:φ x0) (hs:EO sg0 τ τ bZ (J x0))
  (tL:∀x,φ x→vc Tryz.prog n (sem (mkEI n l ex wr pt)) cd ((oM τ bZ).ap (J x)) (zd (λτ'=>∃y sg,φ y∧μ y < μ x∧EO sg τ τ' bZ (J y)) Q')):TW Tryz.prog n (.loop cd) τ Q':=
 agK (E:=mkEI n l ex wr pt) (oT hl) mixed bZ J φ μ x0 sg0 h0 hs tL
end GL
end Go.Proofs.YtnkbdhldiinfdaaGreatDoor
namespace Go.Proofs
open Go.Shelf
def Tryz.apD:Go.Shelf.Ren:=⟨λ|145=>197 |220=>218 |219=>235 |217=>250 |225=>251 |224=>252 |267=>253 |266=>259 |314=>260 |n=>n,λ|9=>9 |4=>4 |59=>207 |3=>3 |5=>5 |46=>244 |146=>256 |51=>242 |n=>n,λ|1=>1 |n=>n⟩
theorem Tryz.aqE:Go.Proofs.Lays.n145 Tryz.prog Tryz.apD:= {
 mixed:=by kernel_rfl
 f145:=Tryz.func197.trans (congrArg some (by kernel_rfl))
 f217:=Tryz.func250.trans (congrArg some (by kernel_rfl))
 f219:=Tryz.func235.trans (congrArg some (by kernel_rfl))
 f220:=Tryz.func218.trans (congrArg some (by kernel_rfl))
 f224:=Tryz.func252.trans (congrArg some (by kernel_rfl))
 f225:=Tryz.func251.trans (congrArg some (by kernel_rfl))
 f266:=Tryz.func259.trans (congrArg some (by kernel_rfl))
 f267:=Tryz.func253.trans (congrArg some (by kernel_rfl))
 f314:=Tryz.func260.trans (congrArg some (by kernel_rfl))
 t3:=Tryz.underlying3
 a3:=Tryz.isAgg3
 z3:=Tryz.sizeOf3
 v3:=Tryz.zeroValue3
 t4:=Tryz.underlying4
 a4:=Tryz.isAgg4
 z4:=Tryz.sizeOf4
 v4:=Tryz.zeroValue4
 t5:=Tryz.underlying5
 a5:=Tryz.isAgg5
 z5:=Tryz.sizeOf5
 v5:=Tryz.zeroValue5
 t9:=Tryz.underlying9
 a9:=Tryz.isAgg9
 z9:=Tryz.sizeOf9
 v9:=Tryz.zeroValue9
 t46:=Tryz.underlying244
 a46:=Tryz.isAgg244
 z46:=Tryz.sizeOf244
 v46:=Tryz.zeroValue244
 t51:=Tryz.underlying242
 a51:=Tryz.isAgg242
 z51:=Tryz.sizeOf242
 v51:=Tryz.zeroValue242
 t59:=Tryz.underlying207
 a59:=Tryz.isAgg207
 z59:=Tryz.sizeOf207
 v59:=Tryz.zeroValue207
 t146:=Tryz.underlying256
 a146:=Tryz.isAgg256
 z146:=Tryz.sizeOf256
 v146:=Tryz.zeroValue256
 g1:=by kernel_rfl }
open Go.RowKit Go.Lib in
theorem Tryz.strings_Cut (s sep:ByteArray) (m:Int) (w:World) (hs:s.size<4294967281) (hm:w.cell? ⟨1,0,none⟩=some (.int .i64 m)):
  Calls Tryz.prog 197 #[.string s,.string sep] w λe w'=>e= .returned (.tuple #[.string ⟨(Lib.cut s.data.toList sep.data.toList).1.toArray⟩,.string ⟨(Lib.cut s.data.toList sep.data.toList).2.1.toArray⟩,.bool (Lib.cut s.data.toList sep.data.toList).2.2])∧∃n,w'=w.drewN n:=Any.strings_Cut Tryz.aqE s sep m w hs hm
end Go.Proofs
namespace Go.Proofs
open Go.Shelf
def Tryz.D1:Go.Shelf.Ren:=⟨λ|156=>158 |165=>196 |166=>125 |169=>129 |240=>169 |241=>217 |276=>202 |277=>234 |n=>n,λ|31=>23 |9=>9 |3=>3 |4=>4 |0=>0 |20=>20 |72=>147 |76=>150 |70=>145 |37=>22 |75=>149 |127=>184 |164=>209 |5=>5 |80=>155 |n=>n,λ|n=>n⟩
theorem Tryz.ZP:Go.Proofs.Lays.n156 Tryz.prog Tryz.D1:= {
 mixed:=by kernel_rfl
 f156:=Tryz.func158.trans (congrArg some (by kernel_rfl))
 f165:=Tryz.func196.trans (congrArg some (by kernel_rfl))
 f166:=Tryz.func125.trans (congrArg some (by kernel_rfl))
 f169:=Tryz.func129.trans (congrArg some (by kernel_rfl))
 f240:=Tryz.func169.trans (congrArg some (by kernel_rfl))
 f241:=Tryz.func217.trans (congrArg some (by kernel_rfl))
 f276:=Tryz.func202.trans (congrArg some (by kernel_rfl))
 f277:=Tryz.func234.trans (congrArg some (by kernel_rfl))
 t0:=Tryz.underlying0
 a0:=Tryz.isAgg0
 z0:=Tryz.sizeOf0
 v0:=Tryz.zeroValue0
 t3:=Tryz.underlying3
 a3:=Tryz.isAgg3
 z3:=Tryz.sizeOf3
 v3:=Tryz.zeroValue3
 t4:=Tryz.underlying4
 a4:=Tryz.isAgg4
 z4:=Tryz.sizeOf4
 v4:=Tryz.zeroValue4
 t9:=Tryz.underlying9
 a9:=Tryz.isAgg9
 z9:=Tryz.sizeOf9
 v9:=Tryz.zeroValue9
 t20:=Tryz.underlying20
 a20:=Tryz.isAgg20
 z20:=Tryz.sizeOf20
 v20:=Tryz.zeroValue20
 t31:=Tryz.underlying23
 a31:=Tryz.isAgg23
 z31:=Tryz.sizeOf23
 v31:=Tryz.zeroValue23
 t37:=Tryz.underlying22
 a37:=Tryz.isAgg22
 z37:=Tryz.sizeOf22
 v37:=Tryz.zeroValue22
 t70:=Tryz.underlying145
 a70:=Tryz.isAgg145
 z70:=Tryz.sizeOf145
 v70:=Tryz.zeroValue145
 t72:=Tryz.underlying147
 a72:=Tryz.isAgg147
 z72:=Tryz.sizeOf147
 v72:=Tryz.zeroValue147
 t75:=Tryz.underlying149
 a75:=Tryz.isAgg149
 z75:=Tryz.sizeOf149
 v75:=Tryz.zeroValue149
 t76:=Tryz.underlying150
 a76:=Tryz.isAgg150
 z76:=Tryz.sizeOf150
 v76:=Tryz.zeroValue150
 t127:=Tryz.underlying184
 a127:=Tryz.isAgg184
 z127:=Tryz.sizeOf184
 v127:=Tryz.zeroValue184
 t164:=Tryz.underlying209
 a164:=Tryz.isAgg209
 z164:=Tryz.sizeOf209
 v164:=Tryz.zeroValue209 }
theorem Tryz.ry:Builder.Extra Tryz.prog Tryz.D1:= {
 sizeBuilder:=by kernel_rfl
 liesBuilder:=by kernel_rfl
 t5:=Tryz.underlying5
 a5:=Tryz.isAgg5
 z5:=Tryz.sizeOf5
 v5:=Tryz.zeroValue5
 infoByte:=by kernel_rfl
 cellsByte:=by kernel_rfl
 sizeByte:=by kernel_rfl
 neB5:=by decide }
open Go.RowKit in
theorem Tryz.strings_Join_none (a:Option Addr) (c:Nat) (sep:ByteArray) (w:World):
  Calls Tryz.prog 158 #[.slice a 0 c,.string sep] w λe w'=>e= .returned (.string ⟨#[]⟩)∧w'=w:=Any.strings_Join_none Tryz.ZP Tryz.ry a c sep w
open Go.RowKit in
theorem Tryz.strings_Join (bk o c:Nat) (xs:List ByteArray) (sep:ByteArray) (w:World) (I4:∀(j:Nat) x,xs[j]?=some x→w.cell? ⟨bk,o+j,none⟩=some (.string x)) (hbk:bk<w.heap.size) (hN:xs.length≤140737488355328) (EY:xs.length≤c) (hlen:(Lib.join (xs.map (·.data.toList)) sep.data.toList).length≤140737488355328):
  Calls Tryz.prog 158 #[.slice (some ⟨bk,o,none⟩) xs.length c,.string sep] w λe w'=>e= .returned (.string ⟨(Lib.join (xs.map (·.data.toList)) sep.data.toList).toArray⟩)∧Below w.heap.size w w':=Any.strings_Join Tryz.ZP Tryz.ry bk o c xs sep w I4 hbk hN EY hlen
def Tryz.S5:Go.Shelf.Ren:=⟨λ|172=>199 |244=>220 |245=>221 |247=>236 |279=>237 |280=>238 |281=>239 |282=>240 |287=>254 |316=>219 |171=>126 |205=>255 |321=>261 |322=>262 |243=>170 |246=>203 |283=>222 |284=>223 |285=>224 |286=>225 |129=>242 |317=>241 |318=>243 |319=>244 |320=>245 |337=>256 |338=>257 |n=>n,λ|9=>9 |3=>3 |75=>149 |76=>150 |4=>4 |5=>5 |167=>234 |37=>22 |0=>0 |85=>235 |2=>2 |168=>237 |53=>225 |175=>250 |46=>244 |210=>253 |127=>184 |145=>261 |143=>259 |21=>21 |171=>224 |173=>228 |212=>241 |51=>242 |20=>20 |213=>243 |232=>262 |233=>263 |80=>155 |n=>n,λ|15=>2 |16=>3 |17=>0 |18=>4 |19=>5 |n=>n⟩
theorem Tryz.afS:Go.Proofs.Lays.n172 Tryz.prog Tryz.S5:= {
 mixed:=by kernel_rfl
 f129:=Tryz.func242.trans (congrArg some (by kernel_rfl))
 f171:=Tryz.func126.trans (congrArg some (by kernel_rfl))
 f172:=Tryz.func199.trans (congrArg some (by kernel_rfl))
 f205:=Tryz.func255.trans (congrArg some (by kernel_rfl))
 f243:=Tryz.func170.trans (congrArg some (by kernel_rfl))
 f244:=Tryz.func220.trans (congrArg some (by kernel_rfl))
 f245:=Tryz.func221.trans (congrArg some (by kernel_rfl))
 f246:=Tryz.func203.trans (congrArg some (by kernel_rfl))
 f247:=Tryz.func236.trans (congrArg some (by kernel_rfl))
 f279:=Tryz.func237.trans (congrArg some (by kernel_rfl))
 f280:=Tryz.func238.trans (congrArg some (by kernel_rfl))
 f281:=Tryz.func239.trans (congrArg some (by kernel_rfl))
 f282:=Tryz.func240.trans (congrArg some (by kernel_rfl))
 f283:=Tryz.func222.trans (congrArg some (by kernel_rfl))
 f284:=Tryz.func223.trans (congrArg some (by kernel_rfl))
 f285:=Tryz.func224.trans (congrArg some (by kernel_rfl))
 f286:=Tryz.func225.trans (congrArg some (by kernel_rfl))
 f287:=Tryz.func254.trans (congrArg some (by kernel_rfl))
 f316:=Tryz.func219.trans (congrArg some (by kernel_rfl))
 f317:=Tryz.func241.trans (congrArg some (by kernel_rfl))
 f318:=Tryz.func243.trans (congrArg some (by kernel_rfl))
 f319:=Tryz.func244.trans (congrArg some (by kernel_rfl))
 f320:=Tryz.func245.trans (congrArg some (by kernel_rfl))
 f321:=Tryz.func261.trans (congrArg some (by kernel_rfl))
 f322:=Tryz.func262.trans (congrArg some (by kernel_rfl))
 f337:=Tryz.func256.trans (congrArg some (by kernel_rfl))
 f338:=Tryz.func257.trans (congrArg some (by kernel_rfl))
 t0:=Tryz.underlying0
 a0:=Tryz.isAgg0
 z0:=Tryz.sizeOf0
 v0:=Tryz.zeroValue0
 t2:=Tryz.underlying2
 a2:=Tryz.isAgg2
 z2:=Tryz.sizeOf2
 v2:=Tryz.zeroValue2
 t3:=Tryz.underlying3
 a3:=Tryz.isAgg3
 z3:=Tryz.sizeOf3
 v3:=Tryz.zeroValue3
 t4:=Tryz.underlying4
 a4:=Tryz.isAgg4
 z4:=Tryz.sizeOf4
 v4:=Tryz.zeroValue4
 t5:=Tryz.underlying5
 a5:=Tryz.isAgg5
 z5:=Tryz.sizeOf5
 v5:=Tryz.zeroValue5
 t9:=Tryz.underlying9
 a9:=Tryz.isAgg9
 z9:=Tryz.sizeOf9
 v9:=Tryz.zeroValue9
 t20:=Tryz.underlying20
 a20:=Tryz.isAgg20
 z20:=Tryz.sizeOf20
 v20:=Tryz.zeroValue20
 t21:=Tryz.underlying21
 a21:=Tryz.isAgg21
 z21:=Tryz.sizeOf21
 v21:=Tryz.zeroValue21
 t37:=Tryz.underlying22
 a37:=Tryz.isAgg22
 z37:=Tryz.sizeOf22
 v37:=Tryz.zeroValue22
 t46:=Tryz.underlying244
 a46:=Tryz.isAgg244
 z46:=Tryz.sizeOf244
 v46:=Tryz.zeroValue244
 t51:=Tryz.underlying242
 a51:=Tryz.isAgg242
 z51:=Tryz.sizeOf242
 v51:=Tryz.zeroValue242
 t53:=Tryz.underlying225
 a53:=Tryz.isAgg225
 z53:=Tryz.sizeOf225
 v53:=Tryz.zeroValue225
 t75:=Tryz.underlying149
 a75:=Tryz.isAgg149
 z75:=Tryz.sizeOf149
 v75:=Tryz.zeroValue149
 t76:=Tryz.underlying150
 a76:=Tryz.isAgg150
 z76:=Tryz.sizeOf150
 v76:=Tryz.zeroValue150
 t85:=Tryz.underlying235
 a85:=Tryz.isAgg235
 z85:=Tryz.sizeOf235
 v85:=Tryz.zeroValue235
 t127:=Tryz.underlying184
 a127:=Tryz.isAgg184
 z127:=Tryz.sizeOf184
 v127:=Tryz.zeroValue184
 t143:=Tryz.underlying259
 a143:=Tryz.isAgg259
 z143:=Tryz.sizeOf259
 v143:=Tryz.zeroValue259
 t145:=Tryz.underlying261
 a145:=Tryz.isAgg261
 z145:=Tryz.sizeOf261
 v145:=Tryz.zeroValue261
 t167:=Tryz.underlying234
 a167:=Tryz.isAgg234
 z167:=Tryz.sizeOf234
 v167:=Tryz.zeroValue234
 t168:=Tryz.underlying237
 a168:=Tryz.isAgg237
 z168:=Tryz.sizeOf237
 v168:=Tryz.zeroValue237
 t171:=Tryz.underlying224
 a171:=Tryz.isAgg224
 z171:=Tryz.sizeOf224
 v171:=Tryz.zeroValue224
 t173:=Tryz.underlying228
 a173:=Tryz.isAgg228
 z173:=Tryz.sizeOf228
 v173:=Tryz.zeroValue228
 t175:=Tryz.underlying250
 a175:=Tryz.isAgg250
 z175:=Tryz.sizeOf250
 v175:=Tryz.zeroValue250
 t210:=Tryz.underlying253
 a210:=Tryz.isAgg253
 z210:=Tryz.sizeOf253
 v210:=Tryz.zeroValue253
 t212:=Tryz.underlying241
 a212:=Tryz.isAgg241
 z212:=Tryz.sizeOf241
 v212:=Tryz.zeroValue241
 t213:=Tryz.underlying243
 a213:=Tryz.isAgg243
 z213:=Tryz.sizeOf243
 t232:=Tryz.underlying262
 a232:=Tryz.isAgg262
 z232:=Tryz.sizeOf262
 v232:=Tryz.zeroValue262
 t233:=Tryz.underlying263
 a233:=Tryz.isAgg263
 z233:=Tryz.sizeOf263
 v233:=Tryz.zeroValue263
 g15:=by kernel_rfl
 g16:=by kernel_rfl
 g17:=by kernel_rfl
 g18:=by kernel_rfl
 g19:=by kernel_rfl }
open Go.RowKit in
theorem Tryz.strconv_Atoi (s:ByteArray) (n:Int) (hl:s.size≤18) (h:Lib.atoi s.data.toList=some n) (w:World):
  Calls Tryz.prog 199 #[.string s] w λe w'=>e= .returned (.tuple #[.int .i64 n,.nilIface])∧∃t,w'=Lib.bytesWorld w 5 t:=Any.strconv_Atoi Tryz.afS s n hl h w
def Tryz.O3:Go.Shelf.Ren:=⟨λ|171=>126 |243=>170 |246=>203 |283=>222 |284=>223 |285=>224 |286=>225 |129=>242 |317=>241 |318=>243 |319=>244 |320=>245 |337=>256 |338=>257 |n=>n,λ|3=>3 |9=>9 |2=>2 |4=>4 |171=>224 |0=>0 |53=>225 |37=>22 |5=>5 |173=>228 |212=>241 |51=>242 |20=>20 |213=>243 |46=>244 |232=>262 |233=>263 |n=>n,λ|17=>0 |18=>4 |19=>5 |n=>n⟩
theorem Tryz.adJ:Go.Proofs.LaysM.n171 Tryz.prog Tryz.O3:= {
 mixed:=by kernel_rfl
 f129:=Tryz.func242.trans (congrArg some (by kernel_rfl))
 f171:=Tryz.func126.trans (congrArg some (by kernel_rfl))
 f243:=Tryz.func170.trans (congrArg some (by kernel_rfl))
 f246:=Tryz.func203.trans (congrArg some (by kernel_rfl))
 f283:=Tryz.func222.trans (congrArg some (by kernel_rfl))
 f284:=Tryz.func223.trans (congrArg some (by kernel_rfl))
 f285:=Tryz.func224.trans (congrArg some (by kernel_rfl))
 f286:=Tryz.func225.trans (congrArg some (by kernel_rfl))
 f317:=Tryz.func241.trans (congrArg some (by kernel_rfl))
 f318:=Tryz.func243.trans (congrArg some (by kernel_rfl))
 f319:=Tryz.func244.trans (congrArg some (by kernel_rfl))
 f320:=Tryz.func245.trans (congrArg some (by kernel_rfl))
 f337:=Tryz.func256.trans (congrArg some (by kernel_rfl))
 f338:=Tryz.func257.trans (congrArg some (by kernel_rfl))
 t0:=Tryz.underlying0
 a0:=Tryz.isAgg0
 z0:=Tryz.sizeOf0
 v0:=Tryz.zeroValue0
 t2:=Tryz.underlying2
 a2:=Tryz.isAgg2
 z2:=Tryz.sizeOf2
 v2:=Tryz.zeroValue2
 t3:=Tryz.underlying3
 a3:=Tryz.isAgg3
 z3:=Tryz.sizeOf3
 v3:=Tryz.zeroValue3
 t4:=Tryz.underlying4
 a4:=Tryz.isAgg4
 z4:=Tryz.sizeOf4
 v4:=Tryz.zeroValue4
 t5:=Tryz.underlying5
 a5:=Tryz.isAgg5
 z5:=Tryz.sizeOf5
 v5:=Tryz.zeroValue5
 t9:=Tryz.underlying9
 a9:=Tryz.isAgg9
 z9:=Tryz.sizeOf9
 v9:=Tryz.zeroValue9
 t20:=Tryz.underlying20
 a20:=Tryz.isAgg20
 z20:=Tryz.sizeOf20
 v20:=Tryz.zeroValue20
 t37:=Tryz.underlying22
 a37:=Tryz.isAgg22
 z37:=Tryz.sizeOf22
 v37:=Tryz.zeroValue22
 t46:=Tryz.underlying244
 a46:=Tryz.isAgg244
 z46:=Tryz.sizeOf244
 v46:=Tryz.zeroValue244
 t51:=Tryz.underlying242
 a51:=Tryz.isAgg242
 z51:=Tryz.sizeOf242
 v51:=Tryz.zeroValue242
 t53:=Tryz.underlying225
 a53:=Tryz.isAgg225
 z53:=Tryz.sizeOf225
 v53:=Tryz.zeroValue225
 t171:=Tryz.underlying224
 a171:=Tryz.isAgg224
 z171:=Tryz.sizeOf224
 v171:=Tryz.zeroValue224
 t173:=Tryz.underlying228
 a173:=Tryz.isAgg228
 z173:=Tryz.sizeOf228
 v173:=Tryz.zeroValue228
 t212:=Tryz.underlying241
 a212:=Tryz.isAgg241
 z212:=Tryz.sizeOf241
 v212:=Tryz.zeroValue241
 t213:=Tryz.underlying243
 a213:=Tryz.isAgg243
 z213:=Tryz.sizeOf243
 t232:=Tryz.underlying262
 a232:=Tryz.isAgg262
 z232:=Tryz.sizeOf262
 v232:=Tryz.zeroValue262
 t233:=Tryz.underlying263
 a233:=Tryz.isAgg263
 z233:=Tryz.sizeOf263
 v233:=Tryz.zeroValue263
 g17:=by kernel_rfl
 g18:=by kernel_rfl
 g19:=by kernel_rfl
 i0:=by kernel_rfl
 i2:=by kernel_rfl
 i3:=by kernel_rfl
 i4:=by kernel_rfl
 i5:=by kernel_rfl
 i9:=by kernel_rfl
 i20:=by kernel_rfl
 i37:=by kernel_rfl
 i46:=by kernel_rfl
 i51:=by kernel_rfl
 i53:=by kernel_rfl
 i171:=by kernel_rfl
 i173:=by kernel_rfl
 i212:=by kernel_rfl
 i232:=by kernel_rfl
 i233:=by kernel_rfl
 m17:=by kernel_rfl
 m18:=by kernel_rfl
 m19:=by kernel_rfl }
open Go.RowKit Go.Sort Go.Lib in
theorem Tryz.strconv_Itoa (n : Int) (h0 : -9223372036854775808 ≤ n) (h1 : n ≤ 9223372036854775807) (w : World) (htab : Lib.TabIs Tryz.prog w "internal/strconv.uint64pow10" .u64 Lib.pow10Tab) :
  Calls Tryz.prog 126 #[.int .i64 n] w λe w'=>e= .returned (.string ⟨(Lib.itoa n).toArray⟩)∧∃k os,w'=grow (w.drewN k) os:=Any.strconv_Itoa Tryz.adJ n h0 h1 w htab
def Tryz.O4:Go.Shelf.Ren:=⟨λ|172=>199 |244=>220 |245=>221 |247=>236 |279=>237 |280=>238 |281=>239 |282=>240 |287=>254 |316=>219 |171=>126 |205=>255 |321=>261 |322=>262 |243=>170 |246=>203 |283=>222 |284=>223 |285=>224 |286=>225 |129=>242 |317=>241 |318=>243 |319=>244 |320=>245 |337=>256 |338=>257 |n=>n,λ|9=>9 |3=>3 |75=>149 |76=>150 |4=>4 |5=>5 |167=>234 |37=>22 |0=>0 |85=>235 |2=>2 |168=>237 |53=>225 |175=>250 |46=>244 |210=>253 |127=>184 |145=>261 |143=>259 |21=>21 |171=>224 |173=>228 |212=>241 |51=>242 |20=>20 |213=>243 |232=>262 |233=>263 |80=>155 |n=>n,λ|15=>2 |16=>3 |17=>0 |18=>4 |19=>5 |n=>n⟩
theorem Tryz.adK:Go.Proofs.LaysC.n172 Tryz.prog Tryz.O4:= {
 mixed:=by kernel_rfl
 f129:=Tryz.func242.trans (congrArg some (by kernel_rfl))
 f171:=Tryz.func126.trans (congrArg some (by kernel_rfl))
 f172:=Tryz.func199.trans (congrArg some (by kernel_rfl))
 f205:=Tryz.func255.trans (congrArg some (by kernel_rfl))
 f243:=Tryz.func170.trans (congrArg some (by kernel_rfl))
 f244:=Tryz.func220.trans (congrArg some (by kernel_rfl))
 f245:=Tryz.func221.trans (congrArg some (by kernel_rfl))
 f246:=Tryz.func203.trans (congrArg some (by kernel_rfl))
 f247:=Tryz.func236.trans (congrArg some (by kernel_rfl))
 f279:=Tryz.func237.trans (congrArg some (by kernel_rfl))
 f280:=Tryz.func238.trans (congrArg some (by kernel_rfl))
 f281:=Tryz.func239.trans (congrArg some (by kernel_rfl))
 f282:=Tryz.func240.trans (congrArg some (by kernel_rfl))
 f283:=Tryz.func222.trans (congrArg some (by kernel_rfl))
 f284:=Tryz.func223.trans (congrArg some (by kernel_rfl))
 f285:=Tryz.func224.trans (congrArg some (by kernel_rfl))
 f286:=Tryz.func225.trans (congrArg some (by kernel_rfl))
 f287:=Tryz.func254.trans (congrArg some (by kernel_rfl))
 f316:=Tryz.func219.trans (congrArg some (by kernel_rfl))
 f317:=Tryz.func241.trans (congrArg some (by kernel_rfl))
 f318:=Tryz.func243.trans (congrArg some (by kernel_rfl))
 f319:=Tryz.func244.trans (congrArg some (by kernel_rfl))
 f320:=Tryz.func245.trans (congrArg some (by kernel_rfl))
 f321:=Tryz.func261.trans (congrArg some (by kernel_rfl))
 f322:=Tryz.func262.trans (congrArg some (by kernel_rfl))
 f337:=Tryz.func256.trans (congrArg some (by kernel_rfl))
 f338:=Tryz.func257.trans (congrArg some (by kernel_rfl))
 t0:=Tryz.underlying0
 a0:=Tryz.isAgg0
 z0:=Tryz.sizeOf0
 v0:=Tryz.zeroValue0
 t2:=Tryz.underlying2
 a2:=Tryz.isAgg2
 z2:=Tryz.sizeOf2
 v2:=Tryz.zeroValue2
 t3:=Tryz.underlying3
 a3:=Tryz.isAgg3
 z3:=Tryz.sizeOf3
 v3:=Tryz.zeroValue3
 t4:=Tryz.underlying4
 a4:=Tryz.isAgg4
 z4:=Tryz.sizeOf4
 v4:=Tryz.zeroValue4
 t5:=Tryz.underlying5
 a5:=Tryz.isAgg5
 z5:=Tryz.sizeOf5
 v5:=Tryz.zeroValue5
 t9:=Tryz.underlying9
 a9:=Tryz.isAgg9
 z9:=Tryz.sizeOf9
 v9:=Tryz.zeroValue9
 t20:=Tryz.underlying20
 a20:=Tryz.isAgg20
 z20:=Tryz.sizeOf20
 v20:=Tryz.zeroValue20
 t21:=Tryz.underlying21
 a21:=Tryz.isAgg21
 z21:=Tryz.sizeOf21
 v21:=Tryz.zeroValue21
 t37:=Tryz.underlying22
 a37:=Tryz.isAgg22
 z37:=Tryz.sizeOf22
 v37:=Tryz.zeroValue22
 t46:=Tryz.underlying244
 a46:=Tryz.isAgg244
 z46:=Tryz.sizeOf244
 v46:=Tryz.zeroValue244
 t51:=Tryz.underlying242
 a51:=Tryz.isAgg242
 z51:=Tryz.sizeOf242
 v51:=Tryz.zeroValue242
 t53:=Tryz.underlying225
 a53:=Tryz.isAgg225
 z53:=Tryz.sizeOf225
 v53:=Tryz.zeroValue225
 t75:=Tryz.underlying149
 a75:=Tryz.isAgg149
 z75:=Tryz.sizeOf149
 v75:=Tryz.zeroValue149
 t76:=Tryz.underlying150
 a76:=Tryz.isAgg150
 z76:=Tryz.sizeOf150
 v76:=Tryz.zeroValue150
 t85:=Tryz.underlying235
 a85:=Tryz.isAgg235
 z85:=Tryz.sizeOf235
 v85:=Tryz.zeroValue235
 t127:=Tryz.underlying184
 a127:=Tryz.isAgg184
 z127:=Tryz.sizeOf184
 v127:=Tryz.zeroValue184
 t143:=Tryz.underlying259
 a143:=Tryz.isAgg259
 z143:=Tryz.sizeOf259
 v143:=Tryz.zeroValue259
 t145:=Tryz.underlying261
 a145:=Tryz.isAgg261
 z145:=Tryz.sizeOf261
 v145:=Tryz.zeroValue261
 t167:=Tryz.underlying234
 a167:=Tryz.isAgg234
 z167:=Tryz.sizeOf234
 v167:=Tryz.zeroValue234
 t168:=Tryz.underlying237
 a168:=Tryz.isAgg237
 z168:=Tryz.sizeOf237
 v168:=Tryz.zeroValue237
 t171:=Tryz.underlying224
 a171:=Tryz.isAgg224
 z171:=Tryz.sizeOf224
 v171:=Tryz.zeroValue224
 t173:=Tryz.underlying228
 a173:=Tryz.isAgg228
 z173:=Tryz.sizeOf228
 v173:=Tryz.zeroValue228
 t175:=Tryz.underlying250
 a175:=Tryz.isAgg250
 z175:=Tryz.sizeOf250
 v175:=Tryz.zeroValue250
 t210:=Tryz.underlying253
 a210:=Tryz.isAgg253
 z210:=Tryz.sizeOf253
 v210:=Tryz.zeroValue253
 t212:=Tryz.underlying241
 a212:=Tryz.isAgg241
 z212:=Tryz.sizeOf241
 v212:=Tryz.zeroValue241
 t213:=Tryz.underlying243
 a213:=Tryz.isAgg243
 z213:=Tryz.sizeOf243
 t232:=Tryz.underlying262
 a232:=Tryz.isAgg262
 z232:=Tryz.sizeOf262
 v232:=Tryz.zeroValue262
 t233:=Tryz.underlying263
 a233:=Tryz.isAgg263
 z233:=Tryz.sizeOf263
 v233:=Tryz.zeroValue263
 g15:=by kernel_rfl
 g16:=by kernel_rfl
 g17:=by kernel_rfl
 g18:=by kernel_rfl
 g19:=by kernel_rfl
 t80:=Tryz.underlying155
 a80:=Tryz.isAgg155
 z80:=Tryz.sizeOf155
 v80:=Tryz.zeroValue155
 i0:=by kernel_rfl
 i2:=by kernel_rfl
 i3:=by kernel_rfl
 i4:=by kernel_rfl
 i5:=by kernel_rfl
 i9:=by kernel_rfl
 i20:=by kernel_rfl
 i21:=by kernel_rfl
 i37:=by kernel_rfl
 i46:=by kernel_rfl
 i51:=by kernel_rfl
 i53:=by kernel_rfl
 i75:=by kernel_rfl
 i76:=by kernel_rfl
 i80:=by kernel_rfl
 i85:=by kernel_rfl
 i127:=by kernel_rfl
 i143:=by kernel_rfl
 i145:=by kernel_rfl
 i167:=by kernel_rfl
 i168:=by kernel_rfl
 i171:=by kernel_rfl
 i173:=by kernel_rfl
 i175:=by kernel_rfl
 i210:=by kernel_rfl
 i212:=by kernel_rfl
 i232:=by kernel_rfl
 i233:=by kernel_rfl
 m15:=by kernel_rfl
 m16:=by kernel_rfl
 m17:=by kernel_rfl
 m18:=by kernel_rfl
 m19:=by kernel_rfl
 c0:=by kernel_rfl
 c2:=by kernel_rfl
 c3:=by kernel_rfl
 c4:=by kernel_rfl
 c5:=by kernel_rfl
 c9:=by kernel_rfl
 c20:=by kernel_rfl
 c21:=by kernel_rfl
 c37:=by kernel_rfl
 c46:=by kernel_rfl
 c51:=by kernel_rfl
 c53:=by kernel_rfl
 c75:=by kernel_rfl
 c76:=by kernel_rfl
 c80:=by kernel_rfl
 c85:=by kernel_rfl
 c127:=by kernel_rfl
 c143:=by kernel_rfl
 c145:=by kernel_rfl
 c167:=by kernel_rfl
 c168:=by kernel_rfl
 c171:=by kernel_rfl
 c173:=by kernel_rfl
 c175:=by kernel_rfl
 c210:=by kernel_rfl
 c212:=by kernel_rfl
 c213:=by kernel_rfl
 c232:=by kernel_rfl
 c233:=by kernel_rfl }
open Go.RowKit in
theorem Tryz.strconv_Atoi_err_var (s : ByteArray) (hl : s.size ≤ 18) (h : Lib.atoi s.data.toList = none) (tp : TypeId) (p : Value) (w : World) (hvar : w.var? Tryz.prog "strconv.ErrSyntax" = some #[.iface tp p]) :
  Calls Tryz.prog 199 #[.string s] w λe w'=>∃N,e= .returned (.tuple #[.int .i64 0,.iface 237 (.pointer (some ⟨N,0,none⟩))])∧w.heap.size≤N∧w'.heap[N]?=some (.cells #[.string ⟨#[65,116,111,105]⟩,.string s,.iface tp p] 253 (0,0))∧Below w.heap.size w w':=Any.strconv_Atoi_err_var Tryz.adK s hl h tp p w hvar
def Tryz.S6:Go.Shelf.Ren:=⟨λ|146=>192 |221=>216 |268=>231 |138=>232 |143=>233 |195=>247 |197=>248 |218=>249 |219=>235 |260=>258 |217=>250 |225=>251 |224=>252 |267=>253 |266=>259 |314=>260 |n=>n,λ|9=>9 |31=>23 |3=>3 |4=>4 |0=>0 |105=>247 |21=>21 |5=>5 |46=>244 |119=>264 |139=>267 |138=>266 |146=>256 |51=>242 |n=>n,λ|1=>1 |3=>6 |4=>7 |n=>n⟩
theorem Tryz.afT:Go.Proofs.Lays.n146 Tryz.prog Tryz.S6:= {
 mixed:=by kernel_rfl
 f138:=Tryz.func232.trans (congrArg some (by kernel_rfl))
 f143:=Tryz.func233.trans (congrArg some (by kernel_rfl))
 f146:=Tryz.func192.trans (congrArg some (by kernel_rfl))
 f195:=Tryz.func247.trans (congrArg some (by kernel_rfl))
 f197:=Tryz.func248.trans (congrArg some (by kernel_rfl))
 f217:=Tryz.func250.trans (congrArg some (by kernel_rfl))
 f218:=Tryz.func249.trans (congrArg some (by kernel_rfl))
 f219:=Tryz.func235.trans (congrArg some (by kernel_rfl))
 f221:=Tryz.func216.trans (congrArg some (by kernel_rfl))
 f224:=Tryz.func252.trans (congrArg some (by kernel_rfl))
 f225:=Tryz.func251.trans (congrArg some (by kernel_rfl))
 f260:=Tryz.func258.trans (congrArg some (by kernel_rfl))
 f266:=Tryz.func259.trans (congrArg some (by kernel_rfl))
 f267:=Tryz.func253.trans (congrArg some (by kernel_rfl))
 f268:=Tryz.func231.trans (congrArg some (by kernel_rfl))
 f314:=Tryz.func260.trans (congrArg some (by kernel_rfl))
 t0:=Tryz.underlying0
 a0:=Tryz.isAgg0
 z0:=Tryz.sizeOf0
 v0:=Tryz.zeroValue0
 t3:=Tryz.underlying3
 a3:=Tryz.isAgg3
 z3:=Tryz.sizeOf3
 v3:=Tryz.zeroValue3
 t4:=Tryz.underlying4
 a4:=Tryz.isAgg4
 z4:=Tryz.sizeOf4
 v4:=Tryz.zeroValue4
 t5:=Tryz.underlying5
 a5:=Tryz.isAgg5
 z5:=Tryz.sizeOf5
 v5:=Tryz.zeroValue5
 t9:=Tryz.underlying9
 a9:=Tryz.isAgg9
 z9:=Tryz.sizeOf9
 v9:=Tryz.zeroValue9
 t21:=Tryz.underlying21
 a21:=Tryz.isAgg21
 z21:=Tryz.sizeOf21
 v21:=Tryz.zeroValue21
 t31:=Tryz.underlying23
 a31:=Tryz.isAgg23
 z31:=Tryz.sizeOf23
 v31:=Tryz.zeroValue23
 t46:=Tryz.underlying244
 a46:=Tryz.isAgg244
 z46:=Tryz.sizeOf244
 v46:=Tryz.zeroValue244
 t51:=Tryz.underlying242
 a51:=Tryz.isAgg242
 z51:=Tryz.sizeOf242
 v51:=Tryz.zeroValue242
 t105:=Tryz.underlying247
 a105:=Tryz.isAgg247
 z105:=Tryz.sizeOf247
 v105:=Tryz.zeroValue247
 t119:=Tryz.underlying264
 a119:=Tryz.isAgg264
 z119:=Tryz.sizeOf264
 t138:=Tryz.underlying266
 a138:=Tryz.isAgg266
 z138:=Tryz.sizeOf266
 v138:=Tryz.zeroValue266
 t139:=Tryz.underlying267
 a139:=Tryz.isAgg267
 z139:=Tryz.sizeOf267
 v139:=Tryz.zeroValue267
 t146:=Tryz.underlying256
 a146:=Tryz.isAgg256
 z146:=Tryz.sizeOf256
 v146:=Tryz.zeroValue256
 g1:=by kernel_rfl
 g3:=by kernel_rfl
 g4:=by kernel_rfl }
open Go.RowKit Go.Lib in
theorem Tryz.strings_Split (s sep:ByteArray) (m:Int) (w:World) (hs:s.size<4294967281) (hm:w.cell? ⟨1,0,none⟩=some (.int .i64 m)) (h1:1≤sep.size):
  Calls Tryz.prog 192 #[.string s,.string sep] w λe w'=>
   e= .returned (.slice (some ⟨w.heap.size,0,none⟩) (Lib.countB s sep+1) (Lib.countB s sep+1))∧w'=w.alloc (.cells ((Lib.splitB sep 0 (Lib.countB s sep) s).map Value.string).toArray 9):=Any.strings_Split Tryz.afT (by kernel_rfl) s sep m w hs hm h1
end Go.Proofs
namespace Go.Proofs.YtnkbdhldiinfdaaGreatDoor
namespace GL
open Go.RowKit
def OX (T:bb) (W w':World):bb:=λb=>if b<W.heap.size then T b else match w'.heap[b]? with
 |some (.cells cs e fr)=>some (.ro cs e fr)
 |_=>none
theorem zD {T:bb}{W w':World}{b:Nat}(h:b<W.heap.size):OX T W w' b=T b:=by unfold OX;rw [if_pos h]
theorem adw {T:bb}{W w':World}{b:Nat}(h:W.heap.size≤b) {cs:Array Value}{e:TypeId}{fr:Nat×Nat}(hb:w'.heap[b]?=some (.cells cs e fr)):OX T W w' b=some (.ro cs e fr):=by
 unfold OX;rw [if_neg (by omega),hb]
theorem WZ {W w':World}{T:bb}{β:Nat→Nat}(hT:WT T W) (hN:UQ T) (hB:Below W.heap.size W w'):aaB W T β 0 (OX T W w') w' where
 typed:=λb k hb=>by
  by_cases h:b<W.heap.size
  ·rw [zD h] at hb
   exact BK.qn (hT b k hb) (hB.block b h)
  ·unfold OX at hb
   rw [if_neg h] at hb
   split at hb
   ·rename_i cs e fr hc;cases hb;exact hc
   ·cases hb
 aiW:= {
  no:=λb ek n cs hb=>by
   by_cases h:b<W.heap.size
   ·rw [zD h] at hb;exact hN.no b ek n cs hb
   ·unfold OX at hb
    rw [if_neg h] at hb
    split at hb<;>cases hb
  oV:=λg hg=>by
   obtain⟨cs,e,fr,h1,h2⟩:=hN.oV g hg
   exact⟨cs,e,fr,by rw [zD (BK.lt (hT _ _ h1))];exact h1,h2⟩ }
 new:=λb hb=>zD hb
 frame:=λb hb _ _=>hB.block b hb
 gd:=hB.size
 os:=hB.os
 tape:=hB.tape
 output:=hB.output
theorem Has.lib {f:FuncId}{A:List AP}{pre:APs.Ty A→Prop}{r:APs.Ty A→AV}(hE:Enters Tryz.prog f) (qo:∀x,(r x).boxes=[]∧(r x).od=true)
  (h:∀x,pre x→∀(W:World) (T:bb) (β:Nat→Nat) (vs:List Value),WT T W→UQ T→r9 T β (APs.avs A x) vs→Calls Tryz.prog f vs.toArray W λe w'=>∃v,e= .returned v∧Below W.heap.size W w'∧(r x).rel (OX T W w') β v):Has Tryz.prog f (X3 A pre r):=by
 refine⟨λx y hp=>?_,hE⟩
 intro W T β vs hT hN c6 hbx cm
 refine (h x hp W T β vs hT hN c6).mono λe w' ⟨v,he,hB,hr⟩=>?_
 refine⟨v,r x,[],OX T W w',β,he,⟨(),trivial,ζ,ζ,ζ⟩,hr,⟨by rw [(qo x).1];simp,(qo x).2⟩,WZ hT hN hB,?_⟩
 exact { len:=ZB5 _,same:=λi hi=>rfl,at_:=λi av hi _=>by simp at hi,inj:=λi j av av' hi _ _ _ _=>by simp at hi }
theorem below_freeze (W w:World) (h:Below W.heap.size W w) (a:Addr) (n:Nat) (ha:W.heap.size≤a.block):Below W.heap.size W (w.freeze a n) where
 os:=by simp only [World.freeze];split<;>exact h.os
 tape:=by simp only [World.freeze];split<;>exact h.tape
 output:=by simp only [World.freeze];split<;>exact h.output
 size:=by
  simp only [World.freeze]
  split
  ·exact h.size
  ·simp only [Array.size_modify];exact h.size
 block:=λk hk=>by
  simp only [World.freeze]
  split
  ·exact h.block k hk
  ·simp only [Array.getElem?_modify]
   rw [if_neg (by omega)]
   exact h.block k hk
theorem UL (W:World) (e:TypeId) (s:ByteArray):Below W.heap.size W (Lib.bytesWorld W e s):=
 below_freeze W _ ((Below.refl _ _).drew.alloc (ZB5 _) _) _ _ (ZB5 _)
theorem X8 (W:World) (n:Nat) (os:Array Obj):Below W.heap.size W (Go.Sort.grow (W.drewN n) os) where
 os:=rfl
 tape:=rfl
 output:=rfl
 size:=by show W.heap.size≤(W.heap++os).size;simp
 block:=λk hk=>by
  show (W.heap++os)[k]?=_
  exact Array.getElem?_append_left hk
theorem PM {T:bb}{W:World}(hT:WT T W) (hN:UQ T) {g:Nat}{p:Array Value→Prop}(h:(g,p)∈zU):∃cs e fr,W.heap[g]?=some (.cells cs e fr)∧p cs:=by
 obtain⟨cs,e,fr,h1,h2⟩:=hN.oV _ h
 exact⟨cs,e,fr,hT _ _ h1,h2⟩
def ja (s:ByteArray):Int×Bool:=match Lib.atoi s.data.toList with
 |some n=>(n,true)
 |none=>(0,false)
def afj:cn:=X3 [.s .str] (λs=>s.size≤18) λs=>.t [.s (.int (ja s).1),.s (.er (ja s).2)]
theorem ahI:Has Tryz.prog 199 afj:=by
 refine Has.lib ⟨_,Tryz.func199,by rfl,by decide⟩ (λx=>⟨rfl,rfl⟩) λ(s:ByteArray) (hp:s.size≤18) W T β vs hT hN c6=>?_
 obtain⟨v,rfl⟩:∃v,vs=[v]:=by
  match vs,c6 with
  |[v],_=>exact⟨v,rfl⟩
  |[],h=>exact h.elim
  |_::_::_,h=>exact h.2.elim
 have hv:v= .string s:=c6.1
 subst hv
 cases ha:Lib.atoi s.data.toList with
 |some n=>
  refine (Tryz.strconv_Atoi s n hp ha W).mono ?_
  rintro e w' ⟨rfl,t,rfl⟩
  refine⟨_,ζ,UL W _ t,?_⟩
  have e1:ja s=(n,true):=by unfold ja;rw [ha]
  show AV.rel _ _ (.t [.s (.int (ja s).1),.s (.er (ja s).2)]) _
  rw [e1]
  exact⟨_,rfl,rfl,rfl,trivial⟩
 |none=>
  obtain⟨cs,e,fr,h1,tp,p,rfl⟩:=PM hT hN (g:=2) (p:=λcs=>∃t v,cs= #[.iface t v]) (by unfold zU;simp)
  have hvar : W.var? Tryz.prog "strconv.ErrSyntax" = some #[.iface tp p] := by
   have hg : Tryz.prog.globalNamed "strconv.ErrSyntax" = some 2 := by kernel_rfl
   simp [World.var?,hg,h1]
  refine (Tryz.strconv_Atoi_err_var s hp ha tp p W hvar).mono ?_
  rintro e w' ⟨N,rfl,_,_,hB⟩
  refine⟨_,ζ,hB,?_⟩
  have e1:ja s=(0,false):=by unfold ja;rw [ha]
  show AV.rel _ _ (.t [.s (.int (ja s).1),.s (.er (ja s).2)]) _
  rw [e1]
  exact⟨_,rfl,rfl,⟨_,_,rfl⟩,trivial⟩
def ad4 (n:Int):ByteArray:=⟨(Lib.itoa n).toArray⟩
def afi:cn:=X3 [.s .int] (λn=>gK≤n∧n≤imax) λn=>.s (.str (ad4 n))
theorem ahH:Has Tryz.prog 126 afi:=by
 refine Has.lib ⟨_,Tryz.func126,by rfl,by decide⟩ (λx=>⟨rfl,rfl⟩) λ(n:Int) (hp:gK≤n∧n≤imax) W T β vs hT hN c6=>?_
 obtain⟨v,rfl⟩:∃v,vs=[v]:=by
  match vs,c6 with
  |[v],_=>exact⟨v,rfl⟩
  |[],h=>exact h.elim
  |_::_::_,h=>exact h.2.elim
 have hv:v= .int .i64 n:=c6.1
 subst hv
 obtain⟨cs,e,fr,h1,rfl⟩:=PM hT hN (g:=0) (p:=λcs=>cs=(Lib.pow10Tab.map λz=>Value.int .u64 z).toArray) (by unfold zU;simp)
 have hvar : Lib.TabIs Tryz.prog W "internal/strconv.uint64pow10" .u64 Lib.pow10Tab := by
  have hg : Tryz.prog.globalNamed "internal/strconv.uint64pow10" = some 0 := by kernel_rfl
  simp [Lib.TabIs,World.var?,hg,h1]
 refine (Tryz.strconv_Itoa n hp.1 hp.2 W hvar).mono ?_
 rintro e w' ⟨rfl,k,os,rfl⟩
 exact⟨_,rfl,X8 W k os,rfl⟩
theorem I7:∀l:List ByteArray,flat [.str 4096] l=l.map Value.string
 |[]=>rfl
 |x::l=>by rw [iS,I7 l];rfl
def ia (s sep:ByteArray):List ByteArray:=Lib.splitB sep 0 (Lib.countB s sep) s
def AF:cn:=X3 [.s .str,.s .str] (λ(s,sep)=>s.size≤1000000∧1≤sep.size) λ(s,sep)=>.s (.vw ab (ia s sep))
theorem FH:Has Tryz.prog 192 AF:=by
 refine Has.lib ⟨_,Tryz.func192,by rfl,by decide⟩ (λx=>⟨rfl,rfl⟩) λ(x:ByteArray×ByteArray) (hp:x.1.size≤1000000∧1≤x.2.size) W T β vs hT hN c6=>?_
 obtain⟨s,sep⟩:=x
 obtain⟨v,u,rfl⟩:∃v u,vs=[v,u]:=by
  match vs,c6 with
  |[v,u],_=>exact⟨v,u,rfl⟩
  |[],h=>exact h.elim
  |[_],h=>exact h.2.elim
  |_::_::_::_,h=>exact h.2.2.elim
 have hv:v= .string s:=c6.1
 have hu:u= .string sep:=c6.2.1
 subst hv;subst hu
 obtain⟨cs,e,fr,h1,m,rfl⟩:=PM hT hN (g:=1) (p:=λcs=>∃n,cs= #[.int .i64 n]) (by unfold zU;simp)
 have hm:W.cell? ⟨1,0,none⟩=some (.int .i64 m):=by rw [rr h1];rfl
 have hp1:s.size≤1000000:=hp.1
 have hs:s.size<4294967281:=by omega
 refine (Tryz.strings_Split s sep m W hs hm hp.2).mono ?_
 rintro e w' ⟨rfl,rfl⟩
 have hlen:(ia s sep).length=Lib.countB s sep+1:=Lib.splitB_all sep hp.2 0 _ s rfl
 refine⟨_,ζ,(Below.refl _ _).alloc (ZB5 _) _,?_⟩
 show (SV.vw ab (ia s sep)).rel _ β _
 refine .inr ⟨W.heap.size,0,Lib.countB s sep+1,_,_,_,?_,?_,adw (ZB5 _) (fr:=(0,0)) (Array.getElem?_push_size ..),?_⟩
 ·rw [hlen]
 ·rw [hlen];exact ZB5 _
 ·rw [I7]
  intro j v hj
  simpa [ia] using hj
def zN (sep:ByteArray) (l:List ByteArray):ByteArray:=⟨(Lib.join (l.map (·.data.toList)) sep.data.toList).toArray⟩
def J6:cn:=X3 [.s (.vz ab),.s .str] (λ(l,sep)=>(Lib.join (l.map (·.data.toList)) sep.data.toList).length≤1000000∧l.length≤1000000) λ(l,sep)=>.s (.str (zN sep l))
theorem PJ:Has Tryz.prog 158 J6:=by
 refine Has.lib ⟨_,Tryz.func158,by rfl,by decide⟩ (λx=>⟨rfl,rfl⟩) λ(x:List ByteArray×ByteArray) (hp:(Lib.join (x.1.map (·.data.toList)) x.2.data.toList).length≤1000000∧x.1.length≤1000000) W T β vs hT hN c6=>?_
 obtain⟨l,sep⟩:=x
 obtain⟨v,u,rfl⟩:∃v u,vs=[v,u]:=by
  match vs,c6 with
  |[v,u],_=>exact⟨v,u,rfl⟩
  |[],h=>exact h.elim
  |[_],h=>exact h.2.elim
  |_::_::_::_,h=>exact h.2.2.elim
 have hu:u= .string sep:=c6.2.1
 subst hu
 have hv:(SV.vz ab l).rel T β v:=c6.1
 rcases hv with ⟨rfl,p,cap,rfl⟩ |⟨b,o,cap,cs,rfl,hlc,dF,hw⟩
 ·refine (Tryz.strings_Join_none p cap sep W).mono ?_
  rintro e w' ⟨rfl,rfl⟩
  exact⟨_,rfl,Below.refl _ _,rfl⟩
 ·obtain⟨te,fr,hc⟩:=FA hT dF
  have hp1:(Lib.join (l.map (·.data.toList)) sep.data.toList).length≤1000000:=hp.1
  have hp2:l.length≤1000000:=hp.2
  refine (Tryz.strings_Join b o cap l sep W (λj x hj=>?_) ?_ (by omega) hlc (by omega)).mono ?_
  ·rw [rr hc]
   refine hw j _ ?_
   rw [I7,List.getElem?_map,hj];rfl
  ·rcases Nat.lt_or_ge b W.heap.size with h |h
   ·exact h
   ·rw [Array.getElem?_eq_none h] at hc;cases hc
  ·rintro e w' ⟨rfl,hB⟩
   exact⟨_,rfl,hB,rfl⟩
end GL
namespace GL
theorem ajO (k:Nat):Lib.decDigits k=lb (dec k):=by
 induction k using Nat.strongRecOn with
 |_ k ih=>
  by_cases h:k<10
  ·rw [Lib.decDigits,dif_pos h,mU h]
  ·rw [Lib.decDigits,dif_neg h,pb h,ih (k / 10) (by omega)]
theorem abP {n:Int}(h:0≤n):ad4 n=bX n:=by
 apply vx
 show Lib.itoa n=lb (dec n.toNat)
 unfold Lib.itoa
 rw [if_neg (by omega),ajO]
def IS (b:UInt8):Prop:=48≤b.toNat∧b.toNat≤57
theorem EG:∀(l:List UInt8) (acc m:Nat),Lib.decFrom acc l=some m→(∀b∈l,IS b)∧(m:Int)=l.foldl (λn b=>10*n+((b.toNat:Int)-48)) (acc:Int)
 |[],acc,m,h=>by
  cases h
  refine⟨λb hb=>?_,ζ⟩
  cases hb
 |b::l,acc,m,h=>by
  unfold Lib.decFrom at h
  split at h
  ·rename_i d hd
   unfold Lib.digitVal at hd
   split at hd
   ·rename_i hb
    cases hd
    obtain⟨h1,h2⟩:=EG l _ _ h
    refine⟨λc hc=>?_,?_⟩
    ·rcases ZB8.1 hc with rfl |hc
     ·exact hb
     ·exact h1 c hc
    ·rw [h2,List.foldl_cons]
     congr 1
     have:=hb.1
     omega
   ·cases hd
  ·cases h
theorem JN:∀(l:List UInt8) (acc:Nat),(∀b∈l,IS b)→∃m,Lib.decFrom acc l=some m
 |[],acc,_=>⟨acc,rfl⟩
 |b::l,acc,h=>by
  unfold Lib.decFrom Lib.digitVal
  have hb:48≤b.toNat∧b.toNat≤57:=h b (List.mem_cons_self ..)
  rw [if_pos hb]
  exact JN l _ λc hc=>h c (List.mem_cons_of_mem _ hc)
theorem afr (k:Nat):Lib.atoi (lb (dec k))=some (k:Int):=by
 obtain⟨b,l,e,_⟩:=xe k
 have hd:=tV k
 rw [e] at hd ⊢
 have hb:=hd b (List.mem_cons_self ..)
 unfold Lib.atoi
 have h1:¬(b==45)=true:=λh=>by have:=beq_iff_eq.1 h;subst this;exact absurd hb.1 (by decide)
 have h2:¬(b==43)=true:=λh=>by have:=beq_iff_eq.1 h;subst this;exact absurd hb.1 (by decide)
 show (if (b==45)=true then _ else if (b==43)=true then _ else _)=_
 rw [if_neg h1,if_neg h2]
 unfold Lib.decNat
 rw [if_neg (by simp)]
 obtain⟨m,hm⟩:=JN (b::l) 0 hd
 rw [hm]
 have h3:=(EG _ _ _ hm).2
 have h4:=QB k
 rw [e] at h4
 unfold qL at h4
 simp only [Option.map_some,Option.some.injEq]
 rw [h3]
 exact h4
theorem canon:∀(n:Nat) (l:List UInt8),l.length=n→l≠[]→(∀b∈l,IS b)→(∀b,l.head?=some b→b.toNat=48→l.length=1)→0≤qL l∧lb (dec (qL l).toNat)=l
 |0,l,hn,fA,_,_=>absurd (ZD4.1 hn) fA
 |n+1,l,hn,fA,hd,h0=>by
  obtain⟨l',b,rfl⟩:∃l' b,l=l'++[b]:=⟨l.dropLast,l.getLast fA,(List.dropLast_concat_getLast fA).symm⟩
  have hb:IS b:=hd b (by simp)
  have hv:qL (l'++[b])=10*qL l'+((b.toNat:Int)-48):=wu l' b
  have hbo:UInt8.ofNat (48+(b.toNat-48))=b:=by
   have h1:=hb.1
   rw [show 48+(b.toNat-48)=b.toNat by omega]
   exact UInt8.ofNat_toNat
  by_cases hl:l'=[]
  ·subst hl
   rw [hv]
   have h1:qL []=0:=rfl
   rw [h1]
   obtain⟨h2,h3⟩:=hb
   refine⟨by omega,?_⟩
   rw [show (10*0+((b.toNat:Int)-48)).toNat=b.toNat-48 by omega,mU (by omega),hbo]
   rfl
  ·have hn':l'.length=n:=by simpa using hn
   obtain⟨c,m,rfl⟩:∃c m,l'=c::m:=by
    cases l' with
    |nil=>exact absurd rfl hl
    |cons c m=>exact⟨c,m,rfl⟩
   have ajy:c.toNat≠48:=λh=>by
    have:=h0 c rfl h
    simp at this
   obtain⟨g1,g2⟩:=canon n (c::m) hn' (by simp) (λx hx=>hd x (List.mem_append_left _ hx)) (λx hx akL=>by cases hx;exact absurd akL ajy)
   have oU:1≤(qL (c::m)).toNat:=by
    rcases Nat.eq_zero_or_pos (qL (c::m)).toNat with h |h
    ·rw [h,mU (by omega)] at g2
     cases g2
     exact absurd rfl ajy
    ·exact h
   obtain⟨h2,h3⟩:=hb
   rw [hv]
   refine⟨by omega,?_⟩
   have e:(10*qL (c::m)+((b.toNat:Int)-48)).toNat=10*(qL (c::m)).toNat+(b.toNat-48):=by omega
   rw [e,pb (by omega),show (10*(qL (c::m)).toNat+(b.toNat-48)) / 10=(qL (c::m)).toNat by omega,show (10*(qL (c::m)).toNat+(b.toNat-48)) % 10=b.toNat-48 by omega,g2,hbo]
theorem OZ:∀(f:Nat) (s:ByteArray) (k:Nat),k≤sA f s k∧sA f s k≤k+f∧∀i,k≤i→i<sA f s k→C9 s i=true
 |0,s,k=>⟨ZB5 _,ZB5 _,λi h1 h2=>by unfold sA at h2;omega⟩
 |f+1,s,k=>by
  unfold sA
  cases h:C9 s k with
  |false=>simp only [cond_false];exact⟨ZB5 _,by omega,λi h1 h2=>by omega⟩
  |true=>
   simp only [cond_true]
   obtain⟨h1,h2,h3⟩:=OZ f s (k+1)
   refine⟨by omega,by omega,λi h4 h5=>?_⟩
   by_cases e:i=k
   ·subst e;exact h
   ·exact h3 i (by omega) h5
theorem aeU {s:ByteArray}{i:Nat}(h:C9 s i=true):i<(lb s).length∧∀b,(lb s)[i]?=some b→IS b:=by
 unfold C9 at h
 simp only [ZA9,decide_eq_true_eq] at h
 obtain⟨h1,_,h3,h4⟩:=h
 have hi:i<(lb s).length:=by rw [←fo];omega
 refine⟨hi,λb hb=>?_⟩
 rw [ni,hb] at h3 h4
 simp only at h3 h4
 exact⟨by omega,by omega⟩
theorem num_inv {s:ByteArray}{m:Int}(h:aD s=(m,true)):s=bX m∧0≤m∧m≤999999999:=by
 unfold aD at h
 cases hc:decide ((CN s).2=0)||decide ((CN s).2≠(s.size:Int)) with
 |true=>rw [hc] at h;cases h
 |false=>
  rw [hc] at h
  simp only [cond_false,Prod.mk.injEq,and_true] at h
  simp only [ZE1,decide_eq_false_iff_not,ZE9] at hc
  obtain⟨hc1,hc2⟩:=hc
  obtain⟨b1,b2,b3⟩:=OZ 9 s 0
  have hnl:sA 9 s 0=cW s:=rfl
  rw [hnl] at b2 b3
  have hle:cW s≤(lb s).length:=by
   by_cases h0:cW s=0
   ·omega
   ·have:=(aeU (b3 (cW s-1) (ZA7 _) (by omega))).1
    omega
  unfold CN at h hc1 hc2
  cases hq:decide ((cW s:Int)>1)&&decide (bL s 0=48) with
  |true=>
   rw [hq] at hc2
   simp only [ZA9,decide_eq_true_eq] at hq
   have h1:(1:Int)=s.size:=hc2
   rw [fo] at h1
   have:=hq.1
   omega
  |false=>
   rw [hq] at h hc1 hc2
   have h1:(cW s:Int)=s.size:=hc2
   have h0:(cW s:Int)≠0:=hc1
   have h2:iN s (cW s)=m:=h
   rw [fo] at h1
   have hlen:cW s=(lb s).length:=by omega
   have af1:iN s (cW s)=qL (lb s):=by
    rw [CD s _ (by omega),hlen,List.take_length]
   have aga:∀b∈lb s,IS b:=λb hb=>by
    obtain⟨i,hi⟩:=ZF3 hb
    have bU:i<(lb s).length:=(ZC0.1 hi).1
    exact (aeU (b3 i (ZA7 _) (by omega))).2 b hi
   have fA:lb s≠[]:=λe=>by rw [e] at hlen;simp at hlen;omega
   obtain⟨g1,g2⟩:=canon _ (lb s) rfl fA aga (λb hb h48=>by
    have hb0:(lb s)[0]?=some b:=by rw [←List.head?_eq_getElem?];exact hb
    have hby:bL s 0=48:=by rw [ni,hb0];simp only;omega
    rw [Bool.and_eq_false_iff] at hq
    rcases hq with hq |hq
    ·have:=aA hq;omega
    ·exact absurd hby (aA hq))
   rw [←h2,af1]
   refine⟨vx g2.symm,g1,?_⟩
   have hb9:(lb s).length≤9:=by omega
   have key:∀(l:List UInt8),(∀b∈l,IS b)→qL l<(10:Int) ^ l.length:=by
    intro l
    generalize hk:l.length=k
    induction k generalizing l with
    |zero=>intro _;rw [ZD4.1 hk];exact (by decide:(0:Int)<1)
    |succ k ih=>
     intro hd
     have fA:l≠[]:=λe=>by subst e;simp at hk
     obtain⟨l',b,rfl⟩:∃l' b,l=l'++[b]:=⟨l.dropLast,l.getLast fA,(List.dropLast_concat_getLast fA).symm⟩
     have h1:=ih l' (by simpa using hk) (λx hx=>hd x (List.mem_append_left _ hx))
     have h2:=(hd b (by simp)).2
     rw [wu,Int.pow_succ]
     omega
   have h5:=key (lb s) aga
   have h6:(10:Int) ^ (lb s).length≤10 ^ 9:=by exact_mod_cast Nat.pow_le_pow_right (by omega) hb9
   omega
def cj (n:Int):ByteArray:=bif ik n 0 999999999 then bX n else ⟨#[]⟩
theorem wb {s:ByteArray}(h9:s.size≤9):aD s=bif !(ja s).2||decide (cj (ja s).1≠s) then (0,false) else ((ja s).1,true):=by
 have uy:∀{r:Int×Bool},r=aD s→r.2=false→r=(0,false):=λ{r} e h=>by
  subst e
  unfold aD at h ⊢
  cases hq:decide ((CN s).2=0)||decide ((CN s).2≠(s.size:Int)) with
  |true=>rfl
  |false=>rw [hq] at h;cases h
 cases hg:(aD s).2 with
 |true=>
  have e:aD s=((aD s).1,true):=by rw [←hg]
  obtain⟨h1,h2,h3⟩:=num_inv e
  have ha:ja s=((aD s).1,true):=by
   unfold ja
   have:Lib.atoi s.data.toList=some (aD s).1:=by
    have h4:=afr (aD s).1.toNat
    rw [show (((aD s).1.toNat:Nat):Int)=(aD s).1 by omega] at h4
    rw [←h4]
    show Lib.atoi (lb s)=Lib.atoi (lb (bX (aD s).1))
    rw [←h1]
   rw [this]
  have hp:cj (aD s).1=s:=by
   unfold cj
   rw [show ik (aD s).1 0 999999999=true from cC.2 ⟨h2,h3⟩]
   exact h1.symm
  rw [ha]
  simp only [Bool.not_true,Bool.false_or]
  rw [hp]
  simpa using e
 |false=>
  rw [uy rfl hg]
  cases ha:(ja s).2 with
  |false=>rfl
  |true=>
   have hd:decide (cj (ja s).1≠s)=true:=by
    apply decide_eq_true
    intro hp
    unfold cj at hp
    cases hi:ik (ja s).1 0 999999999 with
    |false=>
     rw [hi] at hp
     have hp:(⟨#[]⟩:ByteArray)=s:=hp
     subst hp
     exact absurd ha (by decide)
    |true=>
     rw [hi] at hp
     have hp:bX (ja s).1=s:=hp
     obtain⟨g1,g2⟩:=cC.1 hi
     have:=eu g1 (by omega)
     rw [hp] at this
     rw [this] at hg
     cases hg
   rw [hd];rfl
theorem SH {s:ByteArray}(h9:9<s.size):aD s=(0,false):=by
 unfold aD
 obtain⟨_,b2,_⟩:=OZ 9 s 0
 have hnl:sA 9 s 0=cW s:=rfl
 rw [hnl] at b2
 have:decide ((CN s).2≠(s.size:Int))=true:=by
  apply decide_eq_true
  unfold CN
  cases decide ((cW s:Int)>1)&&decide (bL s 0=48) with
  |true=>show (1:Int)≠s.size;omega
  |false=>show (cW s:Int)≠s.size;omega
 rw [this,ZC4];rfl
theorem QP (c:UInt8):∀(n:Nat) (s:ByteArray),Lib.countB s ⟨#[c]⟩=n→(Lib.splitB ⟨#[c]⟩ 0 n s).map lb=mj c (lb s)
 |n,s,hn=>by
  rcases Lib.indexB_cases s ⟨#[c]⟩ with hix |⟨i,hix,n0⟩
  ·have h1:Lib.indexByte (lb s) c= -1:=by rw [←Lib.index_one];exact hix
   have uy:c∉lb s:=λh=>by
    obtain⟨k,hk⟩:=ZF3 h
    exact Lib.indexByte_none h1 k hk
   rw [Lib.splitB_miss _ _ _ _ hix,gj c _ uy];rfl
  ·have h1:Lib.indexByte (lb s) c=i:=by rw [←Lib.index_one];exact hix
   obtain⟨h2,h3⟩:=Lib.indexByte_some h1
   have amk:=Lib.countB_hit s ⟨#[c]⟩ i (ZB5 _) hix
   obtain⟨m,rfl⟩:∃m,n=m+1:=⟨n-1,by omega⟩
   rw [Lib.splitB_hit _ _ _ _ i hix,ZE7,QP c m _ (by omega)]
   have dj:(⟨#[c]⟩:ByteArray).size=1:=rfl
   have hi:i<(lb s).length:=(ZC0.1 h2).1
   have e:lb s=(lb s).take i++c::(lb s).drop (i+1):=by
    have h4:(lb s)[i]=c:=by have:=ZB1 hi;rw [this] at h2;exact ZG8 h2
    rw [←h4,List.getElem_cons_drop,ZG1]
   have hni:c∉(lb s).take i:=λh=>by
    obtain⟨k,hk⟩:=ZF3 h
    rw [List.getElem?_take] at hk
    split at hk
    ·rename_i bU;exact h3 k bU hk
    ·cases hk
   rw [e,lB,gj c _ hni]
   show lb (s.extract 0 (i+0))::mj c (lb (s.extract (i+1) s.size))=_
   rw [mT,mT,fo,List.take_length,Nat.add_zero,ZF0]
   rfl
theorem QO (s:ByteArray) (c:UInt8):ia s ⟨#[c]⟩=bm s c.toNat:=by
 apply yz
 rw [JR]
 exact QP c _ s rfl
theorem FE (sep:ByteArray) (l:List ByteArray):lb (zN sep l)=Lib.join (l.map lb) (lb sep):=rfl
end GL
namespace GL
def df (n:Int) (lo:Int) (hi:Int):Prop:=True
def u7 (n:Int) (lo:Int) (hi:Int):AV:=.s (.q (ik n lo hi))
def WA (n:Int) (lo:Int) (hi:Int):List AV:=[]
def cr:cn where
 A:=[.s .int,.s .int,.s .int]
 B:=[]
 pre:=λx b=>df (x.1) (x.2.1) (x.2.2)
 r:=λx b _=>u7 (x.1) (x.2.1) (x.2.2)
 o:=λx b _=>WA (x.1) (x.2.1) (x.2.2)
theorem fM:Has Tryz.prog 32 cr:=by
 refine Has.fm zT zF zF (l:=[]) trivial Tryz.func32 ?_
 rintro⟨(n:Int),(lo:Int),(hi:Int)⟩ _ (hp:df n lo hi)
 show vc _ _ _ _ (entry [.int n,.int lo,.int hi] []) _
 refine⟨aa,λw1=>?_,λw2=>?_⟩
 all_goals first|refine aw ?_|refine ax ?_|exact a8|exact a7|skip
 all_goals
  refine⟨[],[],_,_,_,ζ,az,(),aa,?_,?_,ζ⟩
  ·show AV.q _=u7 n lo hi;unfold u7;refine congrArg AV.q ?_;(simp_all [ik]<;>omega)
  ·rfl
def yk (n:Int):Prop:=True
def xX (n:Int):AV:=.s (.q (ik n 8 63))
def abk (n:Int):List AV:=[]
def J3:cn where
 A:=[.s .int]
 B:=[]
 pre:=λx b=>yk x
 r:=λx b _=>xX x
 o:=λx b _=>abk x
theorem ad0:Has Tryz.prog 86 J3:=by
 refine Has.fm zT zF zF (l:=[(32,cr)]) ⟨fM,aa⟩ Tryz.func86 ?_
 rintro (n:Int) _ (hp:yk n)
 show vc _ _ _ _ (entry [.int n] []) _
 refine⟨⟨tv4,aa⟩,λx1 w2=>?_⟩
 all_goals first|refine aw ?_|refine ax ?_|exact a8|(dsimp only [cr,df];omega)|exact a7|skip
 refine⟨[],[],_,_,_,ζ,az,(),aa,?_,?_,ζ⟩
 ·(show _=xX n);unfold xX;first|rfl
 ·rfl
def cb (p:Pt):Prop:=True
def s7 (p:Pt):AV:=.s (.q (au p))
def R6 (p:Pt):List AV:=[]
def bG:cn where
 A:=[.a [.int,.int,.int,.int,.int]]
 B:=[]
 pre:=λx b=>cb x
 r:=λx b _=>s7 x
 o:=λx b _=>R6 x
theorem eO:Has Tryz.prog 56 bG:=by
 refine Has.fm zT zF zF (l:=[]) trivial Tryz.func56 ?_
 rintro⟨(p1:Int),(p2:Int),(p3:Int),(p4:Int),(p5:Int)⟩ _ (hp:cb (p1,p2,p3,p4,p5))
 show vc _ _ _ _ (entry [.a [.int p1,.int p2,.int p3,.int p4,.int p5]] []) _
 refine ?_
 all_goals first|refine aw ?_|refine ax ?_|exact a8|exact a7|skip
 refine⟨[],[],_,_,_,ζ,az,(),aa,?_,?_,ζ⟩
 ·(show _=s7 (p1,p2,p3,p4,p5));unfold s7;first|rfl
 ·rfl
def cR (p:Pt):Prop:=True
def xZ (p:Pt):AV:=.s (.q (aZ p))
def abm (p:Pt):List AV:=[]
def cB:cn where
 A:=[.a [.int,.int,.int,.int,.int]]
 B:=[]
 pre:=λx b=>cR x
 r:=λx b _=>xZ x
 o:=λx b _=>abm x
theorem jt:Has Tryz.prog 55 cB:=by
 refine Has.fm zT zF zF (l:=[(56,bG),(86,J3),(32,cr)]) ⟨eO,ad0,fM,aa⟩ Tryz.func55 ?_
 rintro⟨(p1:Int),(p2:Int),(p3:Int),(p4:Int),(p5:Int)⟩ _ (hp:cR (p1,p2,p3,p4,p5))
 show vc _ _ _ _ (entry [.a [.int p1,.int p2,.int p3,.int p4,.int p5]] []) _
 refine⟨⟨⟨tv6,aa⟩,aa⟩,λx1 w2=>⟨aa,λw3=>?_,λw4=>⟨⟨tv2,aa⟩,λx5 w6=>⟨aa,λw7=>⟨⟨tv4,aa⟩,λx8 w9=>⟨aa,λdy=>⟨⟨tv4,aa⟩,λkz dJ=>⟨aa,λiU=>⟨⟨tv4,aa⟩,λx14 qK=>⟨aa,λkg=>⟨⟨tv4,aa⟩,λx17 rS=>?_⟩,λoL=>?_⟩⟩,λuI=>?_⟩⟩,λA4=>?_⟩⟩,λA3=>?_⟩⟩⟩⟩
 all_goals first|refine aw ?_|refine ax ?_|exact a8|(dsimp only [bG,cb,J3,yk,cr,df];omega)|exact a7|skip
 all_goals
  refine⟨[],[],_,_,_,ζ,az,(),aa,?_,?_,ζ⟩
  ·show AV.q _=xZ (p1,p2,p3,p4,p5);unfold xZ;refine congrArg AV.q ?_;simp_all [aZ]
  ·rfl
def tk (s:ByteArray):Prop:=s.size≤1000000000
def xY (s:ByteArray):AV:=.s (.int (qN s))
def abl (s:ByteArray):List AV:=[]
def J4:cn where
 A:=[.s .str]
 B:=[]
 pre:=λx b=>tk x
 r:=λx b _=>xY x
 o:=λx b _=>abl x
theorem ad1:Has Tryz.prog 104 J4:=by
 refine Has.fm zT zF zF (l:=[]) trivial Tryz.func104 ?_
 rintro (s:ByteArray) _ (hp:tk s)
 show vc _ _ _ _ (entry [.str s] []) _
 unfold tk at hp
 refine ?_
 all_goals first|refine aw ?_|refine ax ?_|exact a8|exact a7|skip
 refine cN (l:=[]) (ex:=zT) (wr:=zF) (pt:=zF) trivial [.s 0,.s 7] (λk:Nat=>[(.s 3,.int (rZ s k).1),(.s 4,.int (rZ s k).2),(.s 8,.int k)]) (λk=>k≤s.size) (λk=>s.size-k) 0 [] (ZA7 _) dM ?_
 rintro k hk
 have hb:=xf s k
 have hs:=zf s k
 refine⟨λw1=>⟨⟨?_,?_⟩,⟨⟨?_,?_⟩,⟨⟨?_,?_⟩,⟨⟨?_,?_⟩,⟨⟨?_,?_⟩,⟨⟨?_,?_⟩,⟨⟨?_,?_⟩,⟨⟨?_,?_⟩,?_⟩⟩⟩⟩⟩⟩⟩⟩,λw2=>⟨⟨?_,?_⟩,⟨⟨?_,?_⟩,?_⟩⟩⟩
 all_goals first|refine aw ?_|refine ax ?_|exact a8|exact a7|skip
 ·refine⟨(k+1),[],?_,?_,?_⟩
  rotate_right
  ·repeat' (first|exact trivial|rfl|exact rfl|exact fP ZA0.symm|exact oP|exact congrArg (λn:Int=>some (AV.int n)) (congrArg (· % 9973) (Int.add_comm _ _))|apply And.intro)
  ·have:=aJ w1;omega
  ·have:=aJ w1;omega
 ·have h2:¬(k:Int)<(s.size:Int):=aA w2
  have hk':k=s.size:=by omega
  subst hk'
  refine⟨[],[],_,_,_,ζ,az,(),aa,?_,?_,ζ⟩
  ·(show _=xY s);unfold xY;first|rfl
  ·rfl
end GL
namespace GL
def tm (p:Pt) (s:ByteArray):Prop:=s.size≤1000000000
def s8 (p:Pt) (s:ByteArray):AV:=.s (.q (iX p s))
def R7 (p:Pt) (s:ByteArray):List AV:=[]
def yY:cn where
 A:=[.a [.int,.int,.int,.int,.int],.s .str]
 B:=[]
 pre:=λx b=>tm (x.1) (x.2)
 r:=λx b _=>s8 (x.1) (x.2)
 o:=λx b _=>R7 (x.1) (x.2)
theorem W8:Has Tryz.prog 68 yY:=by
 refine Has.fm zT zF zF (l:=[(56,bG),(55,cB),(104,J4)]) ⟨eO,jt,ad1,aa⟩ Tryz.func68 ?_
 rintro⟨⟨(p1:Int),(p2:Int),(p3:Int),(p4:Int),(p5:Int)⟩,(s:ByteArray)⟩ _ (hp:tm (p1,p2,p3,p4,p5) s)
 show vc _ _ _ _ (entry [.a [.int p1,.int p2,.int p3,.int p4,.int p5],.str s] []) _
 have hp:s.size≤1000000000:=hp
 refine⟨[.s 2,.b 1002],Sq5,ζ,Sq5,Sq6,ζ,⟨⟨tv6,aa⟩,aa⟩,?_,λx1 w2=>⟨Sq6,Sq7,ζ,aa,λw3=>⟨[.s 7,.s 2,.b 1002],Sq8,ζ,[.s 7,.s 8],Sq9,ζ,⟨⟨tv6,aa⟩,aa⟩,?_,λx4 w5=>⟨[.s 7,.s 9],Sq10,ζ,[.s 7,.s 10],Sq11,ζ,Sq11,Sq12,ζ,aa,λw6=>⟨[.s 12,.s 2],Sq13,ζ,[.s 12,.s 13,.b 1002],Sq14,ζ,[.s 12,.s 1],Sq15,ζ,[.s 12,.s 15],Sq16,ζ,[.s 12,.s 14,.s 16],Sq17,ζ,[.s 12,.s 17],Sq18,ζ,Sq18,Sq19,ζ,aa,λw7=>⟨[.s 19,.s 2],Sq20,ζ,[.s 19,.s 20,.b 1002],Sq21,ζ,[.s 19,.s 1],Sq22,ζ,[.s 19,.s 22],Sq23,ζ,⟨tv2,?_⟩,?_,λx8 w9=>⟨[.s 19,.s 21,.s 23],Sq24,ζ,[.s 19,.s 24],Sq25,ζ,Sq25,Sq4,ζ,?_⟩⟩,λdy=>⟨Sq19,Sq20,ζ,Sq19,Sq21,ζ,Sq19,Sq22,ζ,Sq19,Sq23,ζ,Sq19,Sq24,ζ,[.s 19,.s 24],Sq25,ζ,Sq25,Sq4,ζ,?_⟩⟩,λkA=>⟨Sq12,Sq13,ζ,Sq12,Sq14,ζ,Sq12,Sq15,ζ,Sq12,Sq16,ζ,Sq12,Sq17,ζ,[.s 12,.s 17],Sq18,ζ,Sq18,Sq19,ζ,Sq19,Sq20,ζ,Sq19,Sq21,ζ,Sq19,Sq22,ζ,Sq19,Sq23,ζ,Sq19,Sq24,ζ,[.s 19,.s 24],Sq25,ζ,Sq25,Sq4,ζ,?_⟩⟩⟩,λdJ=>⟨Sq7,Sq8,ζ,Sq7,Sq9,ζ,Sq7,Sq10,ζ,[.s 7,.s 10],Sq11,ζ,Sq11,Sq12,ζ,Sq12,Sq13,ζ,Sq12,Sq14,ζ,Sq12,Sq15,ζ,Sq12,Sq16,ζ,Sq12,Sq17,ζ,[.s 12,.s 17],Sq18,ζ,Sq18,Sq19,ζ,Sq19,Sq20,ζ,Sq19,Sq21,ζ,Sq19,Sq22,ζ,Sq19,Sq23,ζ,Sq19,Sq24,ζ,[.s 19,.s 24],Sq25,ζ,Sq25,Sq4,ζ,?_⟩⟩⟩
 all_goals first|refine aw ?_|refine ax ?_|exact a8|(dsimp only [bG,cb,cB,cR,J4,tk];omega)|exact a7|skip
 all_goals
  refine⟨[],[],_,_,_,ζ,az,(),aa,?_,?_,ζ⟩
  ·show AV.q _=s8 (p1,p2,p3,p4,p5) s;unfold s8;refine congrArg AV.q ?_;simp_all [iX]
  ·rfl
def fG (n:Int):Prop:=True
def nH (n:Int):AV:=.s (.str (cj n))
def WE (n:Int):List AV:=[]
def gn:cn where
 A:=[.s .int]
 B:=[]
 pre:=λx b=>fG x
 r:=λx b _=>nH x
 o:=λx b _=>WE x
theorem CR:Has Tryz.prog 130 gn:=by
 refine Has.fm zT zF zF (l:=[(32,cr),(126,afi)]) ⟨fM,ahH,aa⟩ Tryz.func130 ?_
 rintro (n:Int) _ (hp:fG n)
 show vc _ _ _ _ (entry [.int n] []) _
 have cm:(!(ik n 0 999999999))=false→0≤n∧n≤999999999:=λh=>cC.1 (cL h)
 refine⟨⟨tv4,aa⟩,λx1 w2=>⟨λw3=>?_,λw4=>⟨⟨tv2,?_,?_⟩,λx5 w6=>?_⟩⟩⟩
 all_goals first|refine aw ?_|refine ax ?_|exact a8|(dsimp only [cr,df];omega)|exact a7|(have:=cm w4;show (-9223372036854775808:Int)≤n;omega)|(have:=cm w4;show n≤(9223372036854775807:Int);omega)|skip
 ·have e:cj n=⟨#[]⟩:=by unfold cj;rw [show ik n 0 999999999=false from xm w3];rfl
  refine⟨[],[],_,_,_,ζ,az,(),aa,?_,?_,ζ⟩
  ·(show _=nH n);unfold nH;first|(rw [e];rfl)|rfl
  ·rfl
 ·have e:cj n=ad4 n:=by unfold cj;rw [show ik n 0 999999999=true from cL w4,abP (cm w4).1];rfl
  refine⟨[],[],_,_,_,ζ,az,(),aa,?_,?_,ζ⟩
  ·(show _=nH n);unfold nH;first|(rw [e];rfl)|rfl
  ·rfl
def gw (s:ByteArray):Prop:=s.size≤1000000
def gr (s:ByteArray):AV:=.t [.s (.int (aD s).1),.s (.q (aD s).2)]
def WG (s:ByteArray):List AV:=[]
def iT:cn where
 A:=[.s .str]
 B:=[]
 pre:=λx b=>gw x
 r:=λx b _=>gr x
 o:=λx b _=>WG x
theorem MG:Has Tryz.prog 164 iT:=by
 refine Has.fm zT zF zF (l:=[(130,gn),(199,afj)]) ⟨CR,ahI,aa⟩ Tryz.func164 ?_
 rintro (s:ByteArray) _ (hp:gw s)
 show vc _ _ _ _ (entry [.str s] []) _
 have hp:s.size≤1000000:=hp
 have h9:decide ((s.size:Int)>9)=false→s.size≤9:=λh=>by have:=aA h;omega
 refine⟨λw1=>?_,λw2=>⟨⟨tv2,?_⟩,λx3 w4=>⟨aa,λw5=>?_,λw6=>⟨⟨tv2,aa⟩,λx7 w8=>⟨λw9=>?_,λdy=>?_⟩⟩⟩⟩⟩
 all_goals first|refine aw ?_|refine ax ?_|exact a8|(dsimp only [gn,fG];omega)|exact a7|(show s.size≤18;have:=h9 w2;omega)|skip
 ·have e:aD s=(0,false):=SH (by have:=aJ (p:=(s.size:Int)>9) w1;omega)
  refine⟨[],[],_,_,_,ζ,az,(),aa,?_,?_,ζ⟩
  ·(show _=gr s);unfold gr;first|(rw [e];rfl)|rfl
  ·rfl
 ·have e:aD s=(0,false):=by rw [wb (h9 w2),show (!(ja s).2)=true from w5];rfl
  refine⟨[],[],_,_,_,ζ,az,(),aa,?_,?_,ζ⟩
  ·(show _=gr s);unfold gr;first|(rw [e];rfl)|rfl
  ·rfl
 ·have e:aD s=(0,false):=by rw [wb (h9 w2),show decide (cj (ja s).1≠s)=true from w9,ZC4];rfl
  refine⟨[],[],_,_,_,ζ,az,(),aa,?_,?_,ζ⟩
  ·(show _=gr s);unfold gr;first|(rw [e];rfl)|rfl
  ·rfl
 ·have e:aD s=((ja s).1,true):=by rw [wb (h9 w2),show (!(ja s).2)=false from w6,show decide (cj (ja s).1≠s)=false from dy];rfl
  refine⟨[],[],_,_,_,ζ,az,(),aa,?_,?_,ζ⟩
  ·(show _=gr s);unfold gr;first|(rw [e];rfl)|rfl
  ·rfl
def dI (p:Pt):Prop:=True
def xW (p:Pt):AV:=.s (.xs 1 1 0 5)
def B9 (p:Pt):List AV:=[.a [.int p.1,.int p.2.1,.int p.2.2.1,.int p.2.2.2.1,.int p.2.2.2.2],.a [.bp 0 0,.bp 0 1,.bp 0 2,.bp 0 3,.bp 0 4]]
def eC:cn where
 A:=[.b 0]
 B:=[.a [.int,.int,.int,.int,.int]]
 pre:=λx b=>dI b
 r:=λx b _=>xW b
 o:=λx b _=>B9 b
 nf:=1
 ro:=true
theorem zK:Has Tryz.prog 171 eC:=by
 refine Has.fm zT zF zF (l:=[]) trivial Tryz.func171 ?_
 rintro _ ⟨(p1:Int),(p2:Int),(p3:Int),(p4:Int),(p5:Int)⟩ (hp:dI (p1,p2,p3,p4,p5))
 show vc _ _ _ _ (entry [.s (.bp 0 0)] [.a [.int p1,.int p2,.int p3,.int p4,.int p5]]) _
 refine⟨Sq0,Sq3,ζ,Sq3,Sq4,ζ,Sq4,Sq5,ζ,Sq0,Sq6,ζ,Sq6,Sq7,ζ,Sq7,Sq8,ζ,Sq0,Sq9,ζ,Sq9,Sq10,ζ,Sq10,Sq11,ζ,Sq0,Sq12,ζ,Sq12,Sq13,ζ,Sq13,Sq14,ζ,Sq0,Sq15,ζ,Sq15,Sq16,ζ,Sq16,Sq17,ζ,[.s 5,.s 8,.s 11,.s 14,.s 17,.b 1018],[.s 18,.b 1018],ζ,Sq18,Sq2,ζ,?_⟩
 all_goals first|refine aw ?_|refine ax ?_|exact a8|exact a7|skip
 refine⟨[1018],[],_,_,_,ζ,az,(),aa,?_,?_,ζ⟩
 ·(show _=xW (p1,p2,p3,p4,p5));unfold xW;first|rfl
 ·(show _=B9 (p1,p2,p3,p4,p5));unfold B9;first|rfl
