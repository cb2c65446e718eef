/- A drawn law returns true for every code (its row lists package variables, tied by the card): part 40. -/
import Derived.Shelf.LaysC
import Derived.Shelf.LaysM
import Derived.Shelf.Strconv.Atoi
import Derived.Shelf.Strconv.ErrVar
import Derived.Shelf.Strconv.Itoa3
import Derived.Shelf.Strings.OnBuilder
import Derived.Shelf.Strings.Split
import Derived.Shelf.Strings.SplitShaped
import Derived.Sort.Grow
import Derived.Test.YtclcgjhhehbdeaaGreatDoorProg
import Derived.Test.YtclcgjhhehbdeaaGreatDoorPan
set_option maxHeartbeats 20000000
set_option maxRecDepth 100000
set_option linter.all false
namespace Go.Proofs.YtclcgjhhehbdeaaGreatDoor
namespace GL
def eG:TI:=⟨false,1,.other,[.pointer none],[],[]⟩
theorem mf:TIok Tryz.prog 15 eG:=⟨by show Sh Tryz.prog 15=some (false,1);kernel_rfl,by show zeroOf Tryz.prog 15=some [.pointer none];kernel_rfl,by simp [eG],.inl rfl,trivial⟩
def fP:TI:=⟨false,1,.other,[.pointer none],[],[]⟩
theorem qf:TIok Tryz.prog 16 fP:=⟨by show Sh Tryz.prog 16=some (false,1);kernel_rfl,by show zeroOf Tryz.prog 16=some [.pointer none];kernel_rfl,by simp [fP],.inl rfl,trivial⟩
def rv:TI:=⟨false,1,.other,[.pointer none],[],[]⟩
theorem KS:TIok Tryz.prog 17 rv:=⟨by show Sh Tryz.prog 17=some (false,1);kernel_rfl,by show zeroOf Tryz.prog 17=some [.pointer none];kernel_rfl,by simp [rv],.inl rfl,trivial⟩
def pv:TI:=⟨false,1,.other,[.pointer none],[],[]⟩
theorem HJ:TIok Tryz.prog 49 pv:=⟨by show Sh Tryz.prog 49=some (false,1);kernel_rfl,by show zeroOf Tryz.prog 49=some [.pointer none];kernel_rfl,by simp [pv],.inl rfl,trivial⟩
def ja:TI:=⟨false,1,.other,[.pointer none],[],[]⟩
theorem vk:TIok Tryz.prog 65 ja:=⟨by show Sh Tryz.prog 65=some (false,1);kernel_rfl,by show zeroOf Tryz.prog 65=some [.pointer none];kernel_rfl,by simp [ja],.inl rfl,trivial⟩
def oo:TI:=⟨false,1,.other,[.pointer none],[],[]⟩
theorem EP:TIok Tryz.prog 101 oo:=⟨by show Sh Tryz.prog 101=some (false,1);kernel_rfl,by show zeroOf Tryz.prog 101=some [.pointer none];kernel_rfl,by simp [oo],.inl rfl,trivial⟩
def xG:TI:=⟨false,1,.other,[.pointer none],[],[]⟩
theorem WH:TIok Tryz.prog 105 xG:=⟨by show Sh Tryz.prog 105=some (false,1);kernel_rfl,by show zeroOf Tryz.prog 105=some [.pointer none];kernel_rfl,by simp [xG],.inl rfl,trivial⟩
def oj:TI:=⟨false,1,.other,[.pointer none],[],[]⟩
theorem EO:TIok Tryz.prog 151 oj:=⟨by show Sh Tryz.prog 151=some (false,1);kernel_rfl,by show zeroOf Tryz.prog 151=some [.pointer none];kernel_rfl,by simp [oj],.inl rfl,trivial⟩
def F1:TI:=⟨false,1,.other,[.pointer none],[],[]⟩
theorem adb:TIok Tryz.prog 199 F1:=⟨by show Sh Tryz.prog 199=some (false,1);kernel_rfl,by show zeroOf Tryz.prog 199=some [.pointer none];kernel_rfl,by simp [F1],.inl rfl,trivial⟩
def oq:TI:=⟨false,1,.other,[.pointer none],[],[]⟩
theorem ER:TIok Tryz.prog 200 oq:=⟨by show Sh Tryz.prog 200=some (false,1);kernel_rfl,by show zeroOf Tryz.prog 200=some [.pointer none];kernel_rfl,by simp [oq],.inl rfl,trivial⟩
def ru:TI:=⟨false,1,.other,[.pointer none],[],[]⟩
theorem KR:TIok Tryz.prog 211 ru:=⟨by show Sh Tryz.prog 211=some (false,1);kernel_rfl,by show zeroOf Tryz.prog 211=some [.pointer none];kernel_rfl,by simp [ru],.inl rfl,trivial⟩
def iT:TI:=⟨false,1,.other,[.pointer none],[],[]⟩
theorem uA:TIok Tryz.prog 225 iT:=⟨by show Sh Tryz.prog 225=some (false,1);kernel_rfl,by show zeroOf Tryz.prog 225=some [.pointer none];kernel_rfl,by simp [iT],.inl rfl,trivial⟩
def gP:TI:=⟨false,1,.other,[.pointer none],[],[]⟩
theorem sj:TIok Tryz.prog 251 gP:=⟨by show Sh Tryz.prog 251=some (false,1);kernel_rfl,by show zeroOf Tryz.prog 251=some [.pointer none];kernel_rfl,by simp [gP],.inl rfl,trivial⟩
def ag3:TypeId→Option TI
 |15=>some eG
 |16=>some fP
 |17=>some rv
 |49=>some pv
 |65=>some ja
 |101=>some oo
 |105=>some xG
 |151=>some oj
 |199=>some F1
 |200=>some oq
 |211=>some ru
 |225=>some iT
 |251=>some gP
 |t=>tab t
theorem afr:∀t i,ag3 t=some i→TIok Tryz.prog t i:=by
 intro t i h
 unfold ag3 at h
 split at h
 ·cases h;exact mf
 ·cases h;exact qf
 ·cases h;exact KS
 ·cases h;exact HJ
 ·cases h;exact vk
 ·cases h;exact EP
 ·cases h;exact WH
 ·cases h;exact EO
 ·cases h;exact adb
 ·cases h;exact ER
 ·cases h;exact KR
 ·cases h;exact uA
 ·cases h;exact sj
 ·exact ack _ _ h
def mkEI (n:Nat) (l:List (FuncId×cn)) (ex wr pt:Nat→Bool):Env:=⟨n,ag3,look l,ex,wr,pt⟩
theorem oP {n:Nat}{l:List (FuncId×cn)}{ex wr pt:Nat→Bool}(h:gM Tryz.prog l):AQ Tryz.prog (mkEI n l ex wr pt):=⟨afr,fun _ _ hc=>HU h hc⟩
theorem Has.zv (ex wr pt:Nat→Bool) {l:List (FuncId×cn)}(hl:gM Tryz.prog l) {f:FuncId}{fn:Func}{cd:Code}{C:cn}(hf:Tryz.prog.funcs[f]?=some fn)
  (h : ∀ x y, C.pre x y → vc Tryz.prog fn.ntmps (sem (mkEI fn.ntmps l ex wr pt)) cd (entry (APs.avs C.A x) (APs.avs C.B y)) (endQ (mkEI fn.ntmps l ex wr pt).sh fn.results.toList C.B.length C.mv (fun r os => ∃ z, C.φ x y z ∧ r = C.r x y z ∧ os = C.o x y z ∧ os.length = C.B.length + C.nf))) (hb : fn.body = some cd := by exact rfl) (hnm : fn.name ≠ "runtime.NumGoroutine" := by decide) (hlen : C.A.length ≤ fn.ntmps := by exact zqNlb rfl) : Has Tryz.prog f C :=
 ⟨wc.of (oP hl) mixed hf hb rfl hlen h,fn,hf,by rw [hb];rfl,hnm⟩
theorem Has.alo (ex wr pt:Nat→Bool) {f:FuncId}{fn:Func}{cd:Code}{C:cn}(μ:APs.Ty C.A→APs.Ty C.B→Nat) {l:List (FuncId×cn)}(hl:gM Tryz.prog l) (hf:Tryz.prog.funcs[f]?=some fn)
  (h : ∀ x y, C.pre x y → Has Tryz.prog f (C.below μ (μ x y)) → vc Tryz.prog fn.ntmps (sem (mkEI fn.ntmps ((f, C.below μ (μ x y)) :: l) ex wr pt)) cd (entry (APs.avs C.A x) (APs.avs C.B y)) (endQ (mkEI fn.ntmps l ex wr pt).sh fn.results.toList C.B.length C.mv (fun r os => ∃ z, C.φ x y z ∧ r = C.r x y z ∧ os = C.o x y z ∧ os.length = C.B.length + C.nf))) (hb : fn.body = some cd := by exact rfl) (hnm : fn.name ≠ "runtime.NumGoroutine" := by decide) (hlen : C.A.length ≤ fn.ntmps := by exact zqNlb rfl) : Has Tryz.prog f C := by
 have hE:Enters Tryz.prog f:=⟨fn,hf,by rw [hb];rfl,hnm⟩
 have key:∀n,wc Tryz.prog f (C.below μ n):=by
  intro n
  induction n with
  |zero=>intro x y hp;exact absurd hp.2 (by omega)
  |succ n ih=>
   intro (x:APs.Ty C.A) (y:APs.Ty C.B) (hp:C.pre x y∧μ x y<n+1)
   have hm:Has Tryz.prog f (C.below μ (μ x y)):=⟨fun x' y' hp'=>ih x' y' ⟨hp'.1,by have:=hp.2;have h2:μ x' y' < μ x y:=hp'.2;omega⟩,hE⟩
   have hl':gM Tryz.prog ((f,C.below μ (μ x y))::l):=⟨hm,hl⟩
   have hx:(APs.avs C.A x).length≤fn.ntmps:=by rw [APs.fD];exact hlen
   have hy:(APs.avs C.B y).length=C.B.length:=APs.fD C.B y
   exact TC.tm (P:=Tryz.prog) (N:=fn.ntmps) (S:=sem (mkEI fn.ntmps ((f,C.below μ (μ x y))::l) ex wr pt)) (sh:=(mkEI fn.ntmps l ex wr pt).sh) (f:=f) (fn:=fn) (cd:=cd) (args:=APs.avs C.A x) (bs:=APs.avs C.B y) (mv:=C.mv) (post:=fun r os=>∃z,C.φ x y z∧r=C.r x y z∧os=C.o x y z∧os.length=C.B.length+C.nf) mixed (ov (oP (n:=fn.ntmps) (ex:=ex) (wr:=wr) (pt:=pt) hl')) (Env.DK (oP (n:=fn.ntmps) (ex:=ex) (wr:=wr) (pt:=pt) hl)) hf hb rfl hx (by rw [hy];exact h x y hp.1 hm)
 exact⟨fun x y hp=>key (μ x y+1) x y ⟨hp,by omega⟩,hE⟩
theorem Has.WK (ex wr pt:Nat→Bool) {l:List (FuncId×cn)}(hl:gM Tryz.prog l) {f:FuncId}{fn:Func}{cd:Code}{C:cn}(hf:Tryz.prog.funcs[f]?=some fn)
  (h : ∀ x y, C.pre x y → vc Tryz.prog fn.ntmps (sem (mkEI fn.ntmps l ex wr pt)) cd (entry (APs.avs C.A x) (APs.avs C.B y)) (endQ (mkEI fn.ntmps l ex wr pt).sh fn.results.toList C.B.length C.mv (fun r os => ∃ z j, C.φ x y z ∧ r = C.r x y z ∧ os ++ List.replicate j .zz = C.o x y z ∧ (C.o x y z).length = C.B.length + C.nf))) (hb : fn.body = some cd := by exact rfl) (hnm : fn.name ≠ "runtime.NumGoroutine" := by decide) (hlen : C.A.length ≤ fn.ntmps := by exact zqNlb rfl) : Has Tryz.prog f C := by
 refine⟨fun x y hp=>?_,fn,hf,by rw [hb];rfl,hnm⟩
 have hx:(APs.avs C.A x).length≤fn.ntmps:=by rw [APs.fD];exact hlen
 have hy:(APs.avs C.B y).length=C.B.length:=APs.fD C.B y
 refine TC.YX (TC.tm (P:=Tryz.prog) (N:=fn.ntmps) (S:=sem (mkEI fn.ntmps l ex wr pt)) (sh:=(mkEI fn.ntmps l ex wr pt).sh) (f:=f) (fn:=fn) (cd:=cd) (args:=APs.avs C.A x) (bs:=APs.avs C.B y) (mv:=C.mv) (post:=fun r os=>∃z j,C.φ x y z∧r=C.r x y z∧os++List.replicate j .zz=C.o x y z∧(C.o x y z).length=C.B.length+C.nf) mixed (ov (oP (n:=fn.ntmps) (ex:=ex) (wr:=wr) (pt:=pt) hl)) (Env.DK (oP (n:=fn.ntmps) (ex:=ex) (wr:=wr) (pt:=pt) hl)) hf hb rfl hx (by rw [hy];exact h x y hp)) ?_
 rintro r os ⟨z,j,h1,h2,h3,h4⟩
 exact⟨j,z,h1,h2,h3,by rw [h3];exact h4⟩
theorem Has.al0 (ex wr pt:Nat→Bool) {l:List (FuncId×cn)}(hl:gM Tryz.prog l) {f:FuncId}{fn:Func}{cd:Code}{C:cn}(hf:Tryz.prog.funcs[f]?=some fn)
  (h : ∀ x y, C.pre x y → vc Tryz.prog fn.ntmps (sem (mkEI fn.ntmps l ex wr pt)) cd (entry (APs.avs C.A x) (APs.avs C.B y)) (endQ (mkEI fn.ntmps l ex wr pt).sh fn.results.toList C.B.length C.mv (fun r os => ∃ z j, C.φ x y z ∧ Wk (C.r x y z) r ∧ os ++ List.replicate j .zz = C.o x y z ∧ (C.o x y z).length = C.B.length + C.nf))) (hb : fn.body = some cd := by exact rfl) (hnm : fn.name ≠ "runtime.NumGoroutine" := by decide) (hlen : C.A.length ≤ fn.ntmps := by exact zqNlb rfl) : Has Tryz.prog f C := by
 refine⟨fun x y hp=>?_,fn,hf,by rw [hb];rfl,hnm⟩
 have hx:(APs.avs C.A x).length≤fn.ntmps:=by rw [APs.fD];exact hlen
 have hy:(APs.avs C.B y).length=C.B.length:=APs.fD C.B y
 refine TC.ais (TC.tm (P:=Tryz.prog) (N:=fn.ntmps) (S:=sem (mkEI fn.ntmps l ex wr pt)) (sh:=(mkEI fn.ntmps l ex wr pt).sh) (f:=f) (fn:=fn) (cd:=cd) (args:=APs.avs C.A x) (bs:=APs.avs C.B y) (mv:=C.mv) (post:=fun r os=>∃z j,C.φ x y z∧Wk (C.r x y z) r∧os++List.replicate j .zz=C.o x y z∧(C.o x y z).length=C.B.length+C.nf) mixed (ov (oP (n:=fn.ntmps) (ex:=ex) (wr:=wr) (pt:=pt) hl)) (Env.DK (oP (n:=fn.ntmps) (ex:=ex) (wr:=wr) (pt:=pt) hl)) hf hb rfl hx (by rw [hy];exact h x y hp)) ?_
 rintro r os ⟨z,j,h1,h2,h3,h4⟩
 exact⟨C.r x y z,j,h2,z,h1,rfl,h3,by rw [h3];exact h4⟩
theorem lT {l:List (FuncId×cn)}{n:Nat}{ex wr pt:Nat→Bool}(hl:gM Tryz.prog l) {τ:St}{Q':oX}{cd:Code}{ι:Type}(bZ:List fI) (J:ι→AJ) (φ:ι→Prop) (μ:ι→Nat) (x0:ι) (sg0:List (Nat×Nat)) (h0:φ x0) (hs:EJ sg0 τ τ bZ (J x0))
  (tH:∀x,φ x→vc Tryz.prog n (sem (mkEI n l ex wr pt)) cd ((oI τ bZ).ap (J x)) (y7 (fun τ'=>∃y sg,φ y∧μ y < μ x∧EJ sg τ τ' bZ (J y)) Q')):TW Tryz.prog n (.loop cd) τ Q':=
 agC (E:=mkEI n l ex wr pt) (oP hl) mixed bZ J φ μ x0 sg0 h0 hs tH
theorem akA {l:List (FuncId×cn)}{n:Nat}{ex wr pt:Nat→Bool}(hl:gM Tryz.prog l) {τ:St}{Q':oX}{cd:Code}(k:Nat) (h:vcR Tryz.prog n (sem (mkEI n l ex wr pt)) Q' k cd τ):TW Tryz.prog n (.loop cd) τ Q':=fun c a w hr=>
 wp_loop_rounds k (AZ mixed (ov (oP (n:=n) (ex:=ex) (wr:=wr) (pt:=pt) hl)) k cd τ h c a w hr)
end GL
end Go.Proofs.YtclcgjhhehbdeaaGreatDoor
namespace Go.Proofs
open Go.Shelf
def Tryz.DX:Go.Shelf.Ren:=⟨fun |156=>144 |165=>175 |166=>36 |169=>37 |240=>72 |241=>192 |276=>105 |277=>201 |n=>n,fun |31=>23 |9=>9 |3=>3 |4=>4 |0=>0 |20=>20 |72=>67 |76=>70 |70=>65 |37=>22 |75=>69 |127=>105 |164=>138 |5=>5 |80=>72 |n=>n,fun |n=>n⟩
theorem Tryz.ZI:Go.Proofs.Lays.n156 Tryz.prog Tryz.DX:= {
 mixed:=by kernel_rfl
 f156:=Tryz.func144.trans (congrArg some (by kernel_rfl))
 f165:=Tryz.func175.trans (congrArg some (by kernel_rfl))
 f166:=Tryz.func36.trans (congrArg some (by kernel_rfl))
 f169:=Tryz.func37.trans (congrArg some (by kernel_rfl))
 f240:=Tryz.func72.trans (congrArg some (by kernel_rfl))
 f241:=Tryz.func192.trans (congrArg some (by kernel_rfl))
 f276:=Tryz.func105.trans (congrArg some (by kernel_rfl))
 f277:=Tryz.func201.trans (congrArg some (by kernel_rfl))
 t0:=Tryz.underlying0
 a0:=Tryz.isAgg0
 z0:=Tryz.sizeOf0
 v0:=Tryz.zeroValue0
 t3:=Tryz.underlying3
 a3:=Tryz.isAgg3
 z3:=Tryz.sizeOf3
 v3:=Tryz.zeroValue3
 t4:=Tryz.underlying4
 a4:=Tryz.isAgg4
 z4:=Tryz.sizeOf4
 v4:=Tryz.zeroValue4
 t9:=Tryz.underlying9
 a9:=Tryz.isAgg9
 z9:=Tryz.sizeOf9
 v9:=Tryz.zeroValue9
 t20:=Tryz.underlying20
 a20:=Tryz.isAgg20
 z20:=Tryz.sizeOf20
 v20:=Tryz.zeroValue20
 t31:=Tryz.underlying23
 a31:=Tryz.isAgg23
 z31:=Tryz.sizeOf23
 v31:=Tryz.zeroValue23
 t37:=Tryz.underlying22
 a37:=Tryz.isAgg22
 z37:=Tryz.sizeOf22
 v37:=Tryz.zeroValue22
 t70:=Tryz.underlying65
 a70:=Tryz.isAgg65
 z70:=Tryz.sizeOf65
 v70:=Tryz.zeroValue65
 t72:=Tryz.underlying67
 a72:=Tryz.isAgg67
 z72:=Tryz.sizeOf67
 v72:=Tryz.zeroValue67
 t75:=Tryz.underlying69
 a75:=Tryz.isAgg69
 z75:=Tryz.sizeOf69
 v75:=Tryz.zeroValue69
 t76:=Tryz.underlying70
 a76:=Tryz.isAgg70
 z76:=Tryz.sizeOf70
 v76:=Tryz.zeroValue70
 t127:=Tryz.underlying105
 a127:=Tryz.isAgg105
 z127:=Tryz.sizeOf105
 v127:=Tryz.zeroValue105
 t164:=Tryz.underlying138
 a164:=Tryz.isAgg138
 z164:=Tryz.sizeOf138
 v164:=Tryz.zeroValue138 }
theorem Tryz.rq:Builder.Extra Tryz.prog Tryz.DX:= {
 sizeBuilder:=by kernel_rfl
 liesBuilder:=by kernel_rfl
 t5:=Tryz.underlying5
 a5:=Tryz.isAgg5
 z5:=Tryz.sizeOf5
 v5:=Tryz.zeroValue5
 infoByte:=by kernel_rfl
 cellsByte:=by kernel_rfl
 sizeByte:=by kernel_rfl
 neB5:=by decide }
open Go.RowKit in
theorem Tryz.strings_Join_none (a:Option Addr) (c:Nat) (sep:ByteArray) (w:World):
  Calls Tryz.prog 144 #[.slice a 0 c,.string sep] w fun e w'=>e= .returned (.string ⟨#[]⟩)∧w'=w:=Any.strings_Join_none Tryz.ZI Tryz.rq a c sep w
open Go.RowKit in
theorem Tryz.strings_Join (bk o c:Nat) (xs:List ByteArray) (sep:ByteArray) (w:World) (IY:∀(j:Nat) x,xs[j]?=some x→w.cell? ⟨bk,o+j,none⟩=some (.string x)) (hbk:bk<w.heap.size) (hN:xs.length≤140737488355328) (ET:xs.length≤c) (hlen:(Lib.join (xs.map (·.data.toList)) sep.data.toList).length≤140737488355328):
  Calls Tryz.prog 144 #[.slice (some ⟨bk,o,none⟩) xs.length c,.string sep] w fun e w'=>e= .returned (.string ⟨(Lib.join (xs.map (·.data.toList)) sep.data.toList).toArray⟩)∧Below w.heap.size w w':=Any.strings_Join Tryz.ZI Tryz.rq bk o c xs sep w IY hbk hN ET hlen
def Tryz.SZ:Go.Shelf.Ren:=⟨fun |172=>199 |244=>207 |245=>208 |247=>215 |279=>216 |280=>217 |281=>218 |282=>219 |287=>226 |316=>227 |171=>191 |205=>228 |321=>234 |322=>235 |243=>200 |246=>209 |283=>220 |284=>221 |285=>222 |286=>223 |129=>230 |317=>229 |318=>231 |319=>232 |320=>233 |337=>236 |338=>237 |n=>n,fun |9=>9 |3=>3 |75=>69 |76=>70 |4=>4 |5=>5 |167=>222 |37=>22 |0=>0 |85=>223 |2=>2 |168=>225 |53=>229 |175=>241 |46=>221 |210=>244 |127=>105 |145=>253 |143=>251 |21=>21 |171=>228 |173=>232 |212=>247 |51=>238 |20=>20 |213=>248 |232=>255 |233=>256 |80=>72 |n=>n,fun |15=>3 |16=>4 |17=>5 |18=>6 |19=>7 |n=>n⟩
theorem Tryz.afK:Go.Proofs.Lays.n172 Tryz.prog Tryz.SZ:= {
 mixed:=by kernel_rfl
 f129:=Tryz.func230.trans (congrArg some (by kernel_rfl))
 f171:=Tryz.func191.trans (congrArg some (by kernel_rfl))
 f172:=Tryz.func199.trans (congrArg some (by kernel_rfl))
 f205:=Tryz.func228.trans (congrArg some (by kernel_rfl))
 f243:=Tryz.func200.trans (congrArg some (by kernel_rfl))
 f244:=Tryz.func207.trans (congrArg some (by kernel_rfl))
 f245:=Tryz.func208.trans (congrArg some (by kernel_rfl))
 f246:=Tryz.func209.trans (congrArg some (by kernel_rfl))
 f247:=Tryz.func215.trans (congrArg some (by kernel_rfl))
 f279:=Tryz.func216.trans (congrArg some (by kernel_rfl))
 f280:=Tryz.func217.trans (congrArg some (by kernel_rfl))
 f281:=Tryz.func218.trans (congrArg some (by kernel_rfl))
 f282:=Tryz.func219.trans (congrArg some (by kernel_rfl))
 f283:=Tryz.func220.trans (congrArg some (by kernel_rfl))
 f284:=Tryz.func221.trans (congrArg some (by kernel_rfl))
 f285:=Tryz.func222.trans (congrArg some (by kernel_rfl))
 f286:=Tryz.func223.trans (congrArg some (by kernel_rfl))
 f287:=Tryz.func226.trans (congrArg some (by kernel_rfl))
 f316:=Tryz.func227.trans (congrArg some (by kernel_rfl))
 f317:=Tryz.func229.trans (congrArg some (by kernel_rfl))
 f318:=Tryz.func231.trans (congrArg some (by kernel_rfl))
 f319:=Tryz.func232.trans (congrArg some (by kernel_rfl))
 f320:=Tryz.func233.trans (congrArg some (by kernel_rfl))
 f321:=Tryz.func234.trans (congrArg some (by kernel_rfl))
 f322:=Tryz.func235.trans (congrArg some (by kernel_rfl))
 f337:=Tryz.func236.trans (congrArg some (by kernel_rfl))
 f338:=Tryz.func237.trans (congrArg some (by kernel_rfl))
 t0:=Tryz.underlying0
 a0:=Tryz.isAgg0
 z0:=Tryz.sizeOf0
 v0:=Tryz.zeroValue0
 t2:=Tryz.underlying2
 a2:=Tryz.isAgg2
 z2:=Tryz.sizeOf2
 v2:=Tryz.zeroValue2
 t3:=Tryz.underlying3
 a3:=Tryz.isAgg3
 z3:=Tryz.sizeOf3
 v3:=Tryz.zeroValue3
 t4:=Tryz.underlying4
 a4:=Tryz.isAgg4
 z4:=Tryz.sizeOf4
 v4:=Tryz.zeroValue4
 t5:=Tryz.underlying5
 a5:=Tryz.isAgg5
 z5:=Tryz.sizeOf5
 v5:=Tryz.zeroValue5
 t9:=Tryz.underlying9
 a9:=Tryz.isAgg9
 z9:=Tryz.sizeOf9
 v9:=Tryz.zeroValue9
 t20:=Tryz.underlying20
 a20:=Tryz.isAgg20
 z20:=Tryz.sizeOf20
 v20:=Tryz.zeroValue20
 t21:=Tryz.underlying21
 a21:=Tryz.isAgg21
 z21:=Tryz.sizeOf21
 v21:=Tryz.zeroValue21
 t37:=Tryz.underlying22
 a37:=Tryz.isAgg22
 z37:=Tryz.sizeOf22
 v37:=Tryz.zeroValue22
 t46:=Tryz.underlying221
 a46:=Tryz.isAgg221
 z46:=Tryz.sizeOf221
 v46:=Tryz.zeroValue221
 t51:=Tryz.underlying238
 a51:=Tryz.isAgg238
 z51:=Tryz.sizeOf238
 v51:=Tryz.zeroValue238
 t53:=Tryz.underlying229
 a53:=Tryz.isAgg229
 z53:=Tryz.sizeOf229
 v53:=Tryz.zeroValue229
 t75:=Tryz.underlying69
 a75:=Tryz.isAgg69
 z75:=Tryz.sizeOf69
 v75:=Tryz.zeroValue69
 t76:=Tryz.underlying70
 a76:=Tryz.isAgg70
 z76:=Tryz.sizeOf70
 v76:=Tryz.zeroValue70
 t85:=Tryz.underlying223
 a85:=Tryz.isAgg223
 z85:=Tryz.sizeOf223
 v85:=Tryz.zeroValue223
 t127:=Tryz.underlying105
 a127:=Tryz.isAgg105
 z127:=Tryz.sizeOf105
 v127:=Tryz.zeroValue105
 t143:=Tryz.underlying251
 a143:=Tryz.isAgg251
 z143:=Tryz.sizeOf251
 v143:=Tryz.zeroValue251
 t145:=Tryz.underlying253
 a145:=Tryz.isAgg253
 z145:=Tryz.sizeOf253
 v145:=Tryz.zeroValue253
 t167:=Tryz.underlying222
 a167:=Tryz.isAgg222
 z167:=Tryz.sizeOf222
 v167:=Tryz.zeroValue222
 t168:=Tryz.underlying225
 a168:=Tryz.isAgg225
 z168:=Tryz.sizeOf225
 v168:=Tryz.zeroValue225
 t171:=Tryz.underlying228
 a171:=Tryz.isAgg228
 z171:=Tryz.sizeOf228
 v171:=Tryz.zeroValue228
 t173:=Tryz.underlying232
 a173:=Tryz.isAgg232
 z173:=Tryz.sizeOf232
 v173:=Tryz.zeroValue232
 t175:=Tryz.underlying241
 a175:=Tryz.isAgg241
 z175:=Tryz.sizeOf241
 v175:=Tryz.zeroValue241
 t210:=Tryz.underlying244
 a210:=Tryz.isAgg244
 z210:=Tryz.sizeOf244
 v210:=Tryz.zeroValue244
 t212:=Tryz.underlying247
 a212:=Tryz.isAgg247
 z212:=Tryz.sizeOf247
 v212:=Tryz.zeroValue247
 t213:=Tryz.underlying248
 a213:=Tryz.isAgg248
 z213:=Tryz.sizeOf248
 t232:=Tryz.underlying255
 a232:=Tryz.isAgg255
 z232:=Tryz.sizeOf255
 v232:=Tryz.zeroValue255
 t233:=Tryz.underlying256
 a233:=Tryz.isAgg256
 z233:=Tryz.sizeOf256
 v233:=Tryz.zeroValue256
 g15:=by kernel_rfl
 g16:=by kernel_rfl
 g17:=by kernel_rfl
 g18:=by kernel_rfl
 g19:=by kernel_rfl }
open Go.RowKit in
theorem Tryz.strconv_Atoi (s:ByteArray) (n:Int) (hl:s.size≤18) (h:Lib.atoi s.data.toList=some n) (w:World):
  Calls Tryz.prog 199 #[.string s] w fun e w'=>e= .returned (.tuple #[.int .i64 n,.nilIface])∧∃t,w'=Lib.bytesWorld w 5 t:=Any.strconv_Atoi Tryz.afK s n hl h w
def Tryz.OW:Go.Shelf.Ren:=⟨fun |171=>191 |243=>200 |246=>209 |283=>220 |284=>221 |285=>222 |286=>223 |129=>230 |317=>229 |318=>231 |319=>232 |320=>233 |337=>236 |338=>237 |n=>n,fun |3=>3 |9=>9 |2=>2 |4=>4 |171=>228 |0=>0 |53=>229 |37=>22 |5=>5 |173=>232 |212=>247 |51=>238 |20=>20 |213=>248 |46=>221 |232=>255 |233=>256 |n=>n,fun |17=>5 |18=>6 |19=>7 |n=>n⟩
theorem Tryz.adB:Go.Proofs.LaysM.n171 Tryz.prog Tryz.OW:= {
 mixed:=by kernel_rfl
 f129:=Tryz.func230.trans (congrArg some (by kernel_rfl))
 f171:=Tryz.func191.trans (congrArg some (by kernel_rfl))
 f243:=Tryz.func200.trans (congrArg some (by kernel_rfl))
 f246:=Tryz.func209.trans (congrArg some (by kernel_rfl))
 f283:=Tryz.func220.trans (congrArg some (by kernel_rfl))
 f284:=Tryz.func221.trans (congrArg some (by kernel_rfl))
 f285:=Tryz.func222.trans (congrArg some (by kernel_rfl))
 f286:=Tryz.func223.trans (congrArg some (by kernel_rfl))
 f317:=Tryz.func229.trans (congrArg some (by kernel_rfl))
 f318:=Tryz.func231.trans (congrArg some (by kernel_rfl))
 f319:=Tryz.func232.trans (congrArg some (by kernel_rfl))
 f320:=Tryz.func233.trans (congrArg some (by kernel_rfl))
 f337:=Tryz.func236.trans (congrArg some (by kernel_rfl))
 f338:=Tryz.func237.trans (congrArg some (by kernel_rfl))
 t0:=Tryz.underlying0
 a0:=Tryz.isAgg0
 z0:=Tryz.sizeOf0
 v0:=Tryz.zeroValue0
 t2:=Tryz.underlying2
 a2:=Tryz.isAgg2
 z2:=Tryz.sizeOf2
 v2:=Tryz.zeroValue2
 t3:=Tryz.underlying3
 a3:=Tryz.isAgg3
 z3:=Tryz.sizeOf3
 v3:=Tryz.zeroValue3
 t4:=Tryz.underlying4
 a4:=Tryz.isAgg4
 z4:=Tryz.sizeOf4
 v4:=Tryz.zeroValue4
 t5:=Tryz.underlying5
 a5:=Tryz.isAgg5
 z5:=Tryz.sizeOf5
 v5:=Tryz.zeroValue5
 t9:=Tryz.underlying9
 a9:=Tryz.isAgg9
 z9:=Tryz.sizeOf9
 v9:=Tryz.zeroValue9
 t20:=Tryz.underlying20
 a20:=Tryz.isAgg20
 z20:=Tryz.sizeOf20
 v20:=Tryz.zeroValue20
 t37:=Tryz.underlying22
 a37:=Tryz.isAgg22
 z37:=Tryz.sizeOf22
 v37:=Tryz.zeroValue22
 t46:=Tryz.underlying221
 a46:=Tryz.isAgg221
 z46:=Tryz.sizeOf221
 v46:=Tryz.zeroValue221
 t51:=Tryz.underlying238
 a51:=Tryz.isAgg238
 z51:=Tryz.sizeOf238
 v51:=Tryz.zeroValue238
 t53:=Tryz.underlying229
 a53:=Tryz.isAgg229
 z53:=Tryz.sizeOf229
 v53:=Tryz.zeroValue229
 t171:=Tryz.underlying228
 a171:=Tryz.isAgg228
 z171:=Tryz.sizeOf228
 v171:=Tryz.zeroValue228
 t173:=Tryz.underlying232
 a173:=Tryz.isAgg232
 z173:=Tryz.sizeOf232
 v173:=Tryz.zeroValue232
 t212:=Tryz.underlying247
 a212:=Tryz.isAgg247
 z212:=Tryz.sizeOf247
 v212:=Tryz.zeroValue247
 t213:=Tryz.underlying248
 a213:=Tryz.isAgg248
 z213:=Tryz.sizeOf248
 t232:=Tryz.underlying255
 a232:=Tryz.isAgg255
 z232:=Tryz.sizeOf255
 v232:=Tryz.zeroValue255
 t233:=Tryz.underlying256
 a233:=Tryz.isAgg256
 z233:=Tryz.sizeOf256
 v233:=Tryz.zeroValue256
 g17:=by kernel_rfl
 g18:=by kernel_rfl
 g19:=by kernel_rfl
 i0:=by kernel_rfl
 i2:=by kernel_rfl
 i3:=by kernel_rfl
 i4:=by kernel_rfl
 i5:=by kernel_rfl
 i9:=by kernel_rfl
 i20:=by kernel_rfl
 i37:=by kernel_rfl
 i46:=by kernel_rfl
 i51:=by kernel_rfl
 i53:=by kernel_rfl
 i171:=by kernel_rfl
 i173:=by kernel_rfl
 i212:=by kernel_rfl
 i232:=by kernel_rfl
 i233:=by kernel_rfl
 m17:=by kernel_rfl
 m18:=by kernel_rfl
 m19:=by kernel_rfl }
open Go.RowKit Go.Sort Go.Lib in
theorem Tryz.strconv_Itoa (n : Int) (h0 : -9223372036854775808 ≤ n) (h1 : n ≤ 9223372036854775807) (w : World) (htab : Lib.TabIs Tryz.prog w "internal/strconv.uint64pow10" .u64 Lib.pow10Tab) :
  Calls Tryz.prog 191 #[.int .i64 n] w fun e w'=>e= .returned (.string ⟨(Lib.itoa n).toArray⟩)∧∃k os,w'=grow (w.drewN k) os:=Any.strconv_Itoa Tryz.adB n h0 h1 w htab
def Tryz.OX:Go.Shelf.Ren:=⟨fun |172=>199 |244=>207 |245=>208 |247=>215 |279=>216 |280=>217 |281=>218 |282=>219 |287=>226 |316=>227 |171=>191 |205=>228 |321=>234 |322=>235 |243=>200 |246=>209 |283=>220 |284=>221 |285=>222 |286=>223 |129=>230 |317=>229 |318=>231 |319=>232 |320=>233 |337=>236 |338=>237 |n=>n,fun |9=>9 |3=>3 |75=>69 |76=>70 |4=>4 |5=>5 |167=>222 |37=>22 |0=>0 |85=>223 |2=>2 |168=>225 |53=>229 |175=>241 |46=>221 |210=>244 |127=>105 |145=>253 |143=>251 |21=>21 |171=>228 |173=>232 |212=>247 |51=>238 |20=>20 |213=>248 |232=>255 |233=>256 |80=>72 |n=>n,fun |15=>3 |16=>4 |17=>5 |18=>6 |19=>7 |n=>n⟩
theorem Tryz.adC:Go.Proofs.LaysC.n172 Tryz.prog Tryz.OX:= {
 mixed:=by kernel_rfl
 f129:=Tryz.func230.trans (congrArg some (by kernel_rfl))
 f171:=Tryz.func191.trans (congrArg some (by kernel_rfl))
 f172:=Tryz.func199.trans (congrArg some (by kernel_rfl))
 f205:=Tryz.func228.trans (congrArg some (by kernel_rfl))
 f243:=Tryz.func200.trans (congrArg some (by kernel_rfl))
 f244:=Tryz.func207.trans (congrArg some (by kernel_rfl))
 f245:=Tryz.func208.trans (congrArg some (by kernel_rfl))
 f246:=Tryz.func209.trans (congrArg some (by kernel_rfl))
 f247:=Tryz.func215.trans (congrArg some (by kernel_rfl))
 f279:=Tryz.func216.trans (congrArg some (by kernel_rfl))
 f280:=Tryz.func217.trans (congrArg some (by kernel_rfl))
 f281:=Tryz.func218.trans (congrArg some (by kernel_rfl))
 f282:=Tryz.func219.trans (congrArg some (by kernel_rfl))
 f283:=Tryz.func220.trans (congrArg some (by kernel_rfl))
 f284:=Tryz.func221.trans (congrArg some (by kernel_rfl))
 f285:=Tryz.func222.trans (congrArg some (by kernel_rfl))
 f286:=Tryz.func223.trans (congrArg some (by kernel_rfl))
 f287:=Tryz.func226.trans (congrArg some (by kernel_rfl))
 f316:=Tryz.func227.trans (congrArg some (by kernel_rfl))
 f317:=Tryz.func229.trans (congrArg some (by kernel_rfl))
 f318:=Tryz.func231.trans (congrArg some (by kernel_rfl))
 f319:=Tryz.func232.trans (congrArg some (by kernel_rfl))
 f320:=Tryz.func233.trans (congrArg some (by kernel_rfl))
 f321:=Tryz.func234.trans (congrArg some (by kernel_rfl))
 f322:=Tryz.func235.trans (congrArg some (by kernel_rfl))
 f337:=Tryz.func236.trans (congrArg some (by kernel_rfl))
 f338:=Tryz.func237.trans (congrArg some (by kernel_rfl))
 t0:=Tryz.underlying0
 a0:=Tryz.isAgg0
 z0:=Tryz.sizeOf0
 v0:=Tryz.zeroValue0
 t2:=Tryz.underlying2
 a2:=Tryz.isAgg2
 z2:=Tryz.sizeOf2
 v2:=Tryz.zeroValue2
 t3:=Tryz.underlying3
 a3:=Tryz.isAgg3
 z3:=Tryz.sizeOf3
 v3:=Tryz.zeroValue3
 t4:=Tryz.underlying4
 a4:=Tryz.isAgg4
 z4:=Tryz.sizeOf4
 v4:=Tryz.zeroValue4
 t5:=Tryz.underlying5
 a5:=Tryz.isAgg5
 z5:=Tryz.sizeOf5
 v5:=Tryz.zeroValue5
 t9:=Tryz.underlying9
 a9:=Tryz.isAgg9
 z9:=Tryz.sizeOf9
 v9:=Tryz.zeroValue9
 t20:=Tryz.underlying20
 a20:=Tryz.isAgg20
 z20:=Tryz.sizeOf20
 v20:=Tryz.zeroValue20
 t21:=Tryz.underlying21
 a21:=Tryz.isAgg21
 z21:=Tryz.sizeOf21
 v21:=Tryz.zeroValue21
 t37:=Tryz.underlying22
 a37:=Tryz.isAgg22
 z37:=Tryz.sizeOf22
 v37:=Tryz.zeroValue22
 t46:=Tryz.underlying221
 a46:=Tryz.isAgg221
 z46:=Tryz.sizeOf221
 v46:=Tryz.zeroValue221
 t51:=Tryz.underlying238
 a51:=Tryz.isAgg238
 z51:=Tryz.sizeOf238
 v51:=Tryz.zeroValue238
 t53:=Tryz.underlying229
 a53:=Tryz.isAgg229
 z53:=Tryz.sizeOf229
 v53:=Tryz.zeroValue229
 t75:=Tryz.underlying69
 a75:=Tryz.isAgg69
 z75:=Tryz.sizeOf69
 v75:=Tryz.zeroValue69
 t76:=Tryz.underlying70
 a76:=Tryz.isAgg70
 z76:=Tryz.sizeOf70
 v76:=Tryz.zeroValue70
 t85:=Tryz.underlying223
 a85:=Tryz.isAgg223
 z85:=Tryz.sizeOf223
 v85:=Tryz.zeroValue223
 t127:=Tryz.underlying105
 a127:=Tryz.isAgg105
 z127:=Tryz.sizeOf105
 v127:=Tryz.zeroValue105
 t143:=Tryz.underlying251
 a143:=Tryz.isAgg251
 z143:=Tryz.sizeOf251
 v143:=Tryz.zeroValue251
 t145:=Tryz.underlying253
 a145:=Tryz.isAgg253
 z145:=Tryz.sizeOf253
 v145:=Tryz.zeroValue253
 t167:=Tryz.underlying222
 a167:=Tryz.isAgg222
 z167:=Tryz.sizeOf222
 v167:=Tryz.zeroValue222
 t168:=Tryz.underlying225
 a168:=Tryz.isAgg225
 z168:=Tryz.sizeOf225
 v168:=Tryz.zeroValue225
 t171:=Tryz.underlying228
 a171:=Tryz.isAgg228
 z171:=Tryz.sizeOf228
 v171:=Tryz.zeroValue228
 t173:=Tryz.underlying232
 a173:=Tryz.isAgg232
 z173:=Tryz.sizeOf232
 v173:=Tryz.zeroValue232
 t175:=Tryz.underlying241
 a175:=Tryz.isAgg241
 z175:=Tryz.sizeOf241
 v175:=Tryz.zeroValue241
 t210:=Tryz.underlying244
 a210:=Tryz.isAgg244
 z210:=Tryz.sizeOf244
 v210:=Tryz.zeroValue244
 t212:=Tryz.underlying247
 a212:=Tryz.isAgg247
 z212:=Tryz.sizeOf247
 v212:=Tryz.zeroValue247
 t213:=Tryz.underlying248
 a213:=Tryz.isAgg248
 z213:=Tryz.sizeOf248
 t232:=Tryz.underlying255
 a232:=Tryz.isAgg255
 z232:=Tryz.sizeOf255
 v232:=Tryz.zeroValue255
 t233:=Tryz.underlying256
 a233:=Tryz.isAgg256
 z233:=Tryz.sizeOf256
 v233:=Tryz.zeroValue256
 g15:=by kernel_rfl
 g16:=by kernel_rfl
 g17:=by kernel_rfl
 g18:=by kernel_rfl
 g19:=by kernel_rfl
 t80:=Tryz.underlying72
 a80:=Tryz.isAgg72
 z80:=Tryz.sizeOf72
 v80:=Tryz.zeroValue72
 i0:=by kernel_rfl
 i2:=by kernel_rfl
 i3:=by kernel_rfl
 i4:=by kernel_rfl
 i5:=by kernel_rfl
 i9:=by kernel_rfl
 i20:=by kernel_rfl
 i21:=by kernel_rfl
 i37:=by kernel_rfl
 i46:=by kernel_rfl
 i51:=by kernel_rfl
 i53:=by kernel_rfl
 i75:=by kernel_rfl
 i76:=by kernel_rfl
 i80:=by kernel_rfl
 i85:=by kernel_rfl
 i127:=by kernel_rfl
 i143:=by kernel_rfl
 i145:=by kernel_rfl
 i167:=by kernel_rfl
 i168:=by kernel_rfl
 i171:=by kernel_rfl
 i173:=by kernel_rfl
 i175:=by kernel_rfl
 i210:=by kernel_rfl
 i212:=by kernel_rfl
 i232:=by kernel_rfl
 i233:=by kernel_rfl
 m15:=by kernel_rfl
 m16:=by kernel_rfl
 m17:=by kernel_rfl
 m18:=by kernel_rfl
 m19:=by kernel_rfl
 c0:=by kernel_rfl
 c2:=by kernel_rfl
 c3:=by kernel_rfl
 c4:=by kernel_rfl
 c5:=by kernel_rfl
 c9:=by kernel_rfl
 c20:=by kernel_rfl
 c21:=by kernel_rfl
 c37:=by kernel_rfl
 c46:=by kernel_rfl
 c51:=by kernel_rfl
 c53:=by kernel_rfl
 c75:=by kernel_rfl
 c76:=by kernel_rfl
 c80:=by kernel_rfl
 c85:=by kernel_rfl
 c127:=by kernel_rfl
 c143:=by kernel_rfl
 c145:=by kernel_rfl
 c167:=by kernel_rfl
 c168:=by kernel_rfl
 c171:=by kernel_rfl
 c173:=by kernel_rfl
 c175:=by kernel_rfl
 c210:=by kernel_rfl
 c212:=by kernel_rfl
 c213:=by kernel_rfl
 c232:=by kernel_rfl
 c233:=by kernel_rfl }
open Go.RowKit in
theorem Tryz.strconv_Atoi_err_var (s : ByteArray) (hl : s.size ≤ 18) (h : Lib.atoi s.data.toList = none) (tp : TypeId) (p : Value) (w : World) (hvar : w.var? Tryz.prog "strconv.ErrSyntax" = some #[.iface tp p]) :
  Calls Tryz.prog 199 #[.string s] w fun e w'=>∃N,e= .returned (.tuple #[.int .i64 0,.iface 225 (.pointer (some ⟨N,0,none⟩))])∧w.heap.size≤N∧w'.heap[N]?=some (.cells #[.string ⟨#[65,116,111,105]⟩,.string s,.iface tp p] 244 (0,0))∧Below w.heap.size w w':=Any.strconv_Atoi_err_var Tryz.adC s hl h tp p w hvar
def Tryz.S0:Go.Shelf.Ren:=⟨fun |146=>170 |221=>189 |268=>196 |138=>197 |143=>198 |195=>203 |197=>204 |218=>205 |219=>206 |260=>210 |217=>211 |225=>212 |224=>213 |267=>214 |266=>224 |314=>225 |n=>n,fun |9=>9 |31=>23 |3=>3 |4=>4 |0=>0 |105=>216 |21=>21 |5=>5 |46=>221 |119=>234 |139=>237 |138=>236 |146=>239 |51=>238 |n=>n,fun |1=>0 |3=>1 |4=>2 |n=>n⟩
theorem Tryz.afL:Go.Proofs.Lays.n146 Tryz.prog Tryz.S0:= {
 mixed:=by kernel_rfl
 f138:=Tryz.func197.trans (congrArg some (by kernel_rfl))
 f143:=Tryz.func198.trans (congrArg some (by kernel_rfl))
 f146:=Tryz.func170.trans (congrArg some (by kernel_rfl))
 f195:=Tryz.func203.trans (congrArg some (by kernel_rfl))
 f197:=Tryz.func204.trans (congrArg some (by kernel_rfl))
 f217:=Tryz.func211.trans (congrArg some (by kernel_rfl))
 f218:=Tryz.func205.trans (congrArg some (by kernel_rfl))
 f219:=Tryz.func206.trans (congrArg some (by kernel_rfl))
 f221:=Tryz.func189.trans (congrArg some (by kernel_rfl))
 f224:=Tryz.func213.trans (congrArg some (by kernel_rfl))
 f225:=Tryz.func212.trans (congrArg some (by kernel_rfl))
 f260:=Tryz.func210.trans (congrArg some (by kernel_rfl))
 f266:=Tryz.func224.trans (congrArg some (by kernel_rfl))
 f267:=Tryz.func214.trans (congrArg some (by kernel_rfl))
 f268:=Tryz.func196.trans (congrArg some (by kernel_rfl))
 f314:=Tryz.func225.trans (congrArg some (by kernel_rfl))
 t0:=Tryz.underlying0
 a0:=Tryz.isAgg0
 z0:=Tryz.sizeOf0
 v0:=Tryz.zeroValue0
 t3:=Tryz.underlying3
 a3:=Tryz.isAgg3
 z3:=Tryz.sizeOf3
 v3:=Tryz.zeroValue3
 t4:=Tryz.underlying4
 a4:=Tryz.isAgg4
 z4:=Tryz.sizeOf4
 v4:=Tryz.zeroValue4
 t5:=Tryz.underlying5
 a5:=Tryz.isAgg5
 z5:=Tryz.sizeOf5
 v5:=Tryz.zeroValue5
 t9:=Tryz.underlying9
 a9:=Tryz.isAgg9
 z9:=Tryz.sizeOf9
 v9:=Tryz.zeroValue9
 t21:=Tryz.underlying21
 a21:=Tryz.isAgg21
 z21:=Tryz.sizeOf21
 v21:=Tryz.zeroValue21
 t31:=Tryz.underlying23
 a31:=Tryz.isAgg23
 z31:=Tryz.sizeOf23
 v31:=Tryz.zeroValue23
 t46:=Tryz.underlying221
 a46:=Tryz.isAgg221
 z46:=Tryz.sizeOf221
 v46:=Tryz.zeroValue221
 t51:=Tryz.underlying238
 a51:=Tryz.isAgg238
 z51:=Tryz.sizeOf238
 v51:=Tryz.zeroValue238
 t105:=Tryz.underlying216
 a105:=Tryz.isAgg216
 z105:=Tryz.sizeOf216
 v105:=Tryz.zeroValue216
 t119:=Tryz.underlying234
 a119:=Tryz.isAgg234
 z119:=Tryz.sizeOf234
 t138:=Tryz.underlying236
 a138:=Tryz.isAgg236
 z138:=Tryz.sizeOf236
 v138:=Tryz.zeroValue236
 t139:=Tryz.underlying237
 a139:=Tryz.isAgg237
 z139:=Tryz.sizeOf237
 v139:=Tryz.zeroValue237
 t146:=Tryz.underlying239
 a146:=Tryz.isAgg239
 z146:=Tryz.sizeOf239
 v146:=Tryz.zeroValue239
 g1:=by kernel_rfl
 g3:=by kernel_rfl
 g4:=by kernel_rfl }
open Go.RowKit Go.Lib in
theorem Tryz.strings_Split (s sep:ByteArray) (m:Int) (w:World) (hs:s.size<4294967281) (hm:w.cell? ⟨0,0,none⟩=some (.int .i64 m)) (h1:1≤sep.size):
  Calls Tryz.prog 170 #[.string s,.string sep] w fun e w'=>
   e= .returned (.slice (some ⟨w.heap.size,0,none⟩) (Lib.countB s sep+1) (Lib.countB s sep+1))∧w'=w.alloc (.cells ((Lib.splitB sep 0 (Lib.countB s sep) s).map Value.string).toArray 9):=Any.strings_Split Tryz.afL (by kernel_rfl) s sep m w hs hm h1
end Go.Proofs
namespace Go.Proofs.YtclcgjhhehbdeaaGreatDoor
namespace GL
open Go.RowKit
def OR (T:bb) (W w':World):bb:=fun b=>if b<W.heap.size then T b else match w'.heap[b]? with
 |some (.cells cs e fr)=>some (.ro cs e fr)
 |_=>none
theorem zx {T:bb}{W w':World}{b:Nat}(h:b<W.heap.size):OR T W w' b=T b:=by unfold OR;rw [if_pos h]
theorem ado {T:bb}{W w':World}{b:Nat}(h:W.heap.size≤b) {cs:Array Value}{e:TypeId}{fr:Nat×Nat}(hb:w'.heap[b]?=some (.cells cs e fr)):OR T W w' b=some (.ro cs e fr):=by
 unfold OR;rw [if_neg (by omega),hb]
theorem WS {W w':World}{T:bb}{β:Nat→Nat}(hT:WT T W) (hN:UJ T) (hB:Below W.heap.size W w'):aau W T β 0 (OR T W w') w' where
 typed:=fun b k hb=>by
  by_cases h:b<W.heap.size
  ·rw [zx h] at hb
   exact BK.qi (hT b k hb) (hB.block b h)
  ·unfold OR at hb
   rw [if_neg h] at hb
   split at hb
   ·rename_i cs e fr hc;cases hb;exact hc
   ·cases hb
 aiO:= {
  no:=fun b ek n cs hb=>by
   by_cases h:b<W.heap.size
   ·rw [zx h] at hb;exact hN.no b ek n cs hb
   ·unfold OR at hb
    rw [if_neg h] at hb
    split at hb<;>cases hb
  oR:=fun g hg=>by
   obtain⟨cs,e,fr,h1,h2⟩:=hN.oR g hg
   exact⟨cs,e,fr,by rw [zx (BK.lt (hT _ _ h1))];exact h1,h2⟩ }
 new:=fun b hb=>zx hb
 frame:=fun b hb _ _=>hB.block b hb
 gb:=hB.size
 os:=hB.os
 tape:=hB.tape
 output:=hB.output
theorem Has.lib {f:FuncId}{A:List AP}{pre:APs.Ty A→Prop}{r:APs.Ty A→AV}(hE:Enters Tryz.prog f) (qj:∀x,(r x).boxes=[]∧(r x).n0=true)
  (h:∀x,pre x→∀(W:World) (T:bb) (β:Nat→Nat) (vs:List Value),WT T W→UJ T→r5 T β (APs.avs A x) vs→Calls Tryz.prog f vs.toArray W fun e w'=>∃v,e= .returned v∧Below W.heap.size W w'∧(r x).rel (OR T W w') β v):Has Tryz.prog f (XX A pre r):=by
 refine⟨fun x y hp=>?_,hE⟩
 intro W T β vs hT hN c6 hbx cm
 refine (h x hp W T β vs hT hN c6).mono fun e w' ⟨v,he,hB,hr⟩=>?_
 refine⟨v,r x,[],OR T W w',β,he,⟨(),trivial,rfl,rfl,rfl⟩,hr,⟨by rw [(qj x).1];simp,(qj x).2⟩,WS hT hN hB,?_⟩
 exact { len:=ZB5 _,same:=fun i hi=>rfl,at_:=fun i av hi _=>by simp at hi,inj:=fun i j av av' hi _ _ _ _=>by simp at hi }
theorem aik (W:World) (o:Obj):(W.drew.alloc o).heap.size=W.heap.size+1:=by
 show (W.heap.push o).size=_
 simp
theorem below_freeze (W w:World) (h:Below W.heap.size W w) (a:Addr) (n:Nat) (ha:W.heap.size≤a.block):Below W.heap.size W (w.freeze a n) where
 os:=by simp only [World.freeze];split<;>exact h.os
 tape:=by simp only [World.freeze];split<;>exact h.tape
 output:=by simp only [World.freeze];split<;>exact h.output
 size:=by
  simp only [World.freeze]
  split
  ·exact h.size
  ·simp only [Array.size_modify];exact h.size
 block:=fun k hk=>by
  simp only [World.freeze]
  split
  ·exact h.block k hk
  ·simp only [Array.getElem?_modify]
   rw [if_neg (by omega)]
   exact h.block k hk
theorem UE (W:World) (e:TypeId) (s:ByteArray):Below W.heap.size W (Lib.bytesWorld W e s):=
 below_freeze W _ ((Below.refl _ _).drew.alloc (ZB5 _) _) _ _ (ZB5 _)
theorem X2 (W:World) (n:Nat) (os:Array Obj):Below W.heap.size W (Go.Sort.grow (W.drewN n) os) where
 os:=rfl
 tape:=rfl
 output:=rfl
 size:=by show W.heap.size≤(W.heap++os).size;simp
 block:=fun k hk=>by
  show (W.heap++os)[k]?=_
  exact Array.getElem?_append_left hk
theorem PG {T:bb}{W:World}(hT:WT T W) (hN:UJ T) {g:Nat}{p:Array Value→Prop}(h:(g,p)∈zO):∃cs e fr,W.heap[g]?=some (.cells cs e fr)∧p cs:=by
 obtain⟨cs,e,fr,h1,h2⟩:=hN.oR _ h
 exact⟨cs,e,fr,hT _ _ h1,h2⟩
def iY (s:ByteArray):Int×Bool:=match Lib.atoi s.data.toList with
 |some n=>(n,true)
 |none=>(0,false)
def afb:cn:=XX [.s .str] (fun s=>s.size≤18) fun s=>.t [.s (.int (iY s).1),.s (.er (iY s).2)]
theorem ahz:Has Tryz.prog 199 afb:=by
 refine Has.lib ⟨_,Tryz.func199,by rfl,by decide⟩ (fun x=>⟨rfl,rfl⟩) fun (s:ByteArray) (hp:s.size≤18) W T β vs hT hN c6=>?_
 obtain⟨v,rfl⟩:∃v,vs=[v]:=by
  match vs,c6 with
  |[v],_=>exact⟨v,rfl⟩
  |[],h=>exact h.elim
  |_::_::_,h=>exact h.2.elim
 have hv:v= .string s:=c6.1
 subst hv
 cases ha:Lib.atoi s.data.toList with
 |some n=>
  refine (Tryz.strconv_Atoi s n hp ha W).mono ?_
  rintro e w' ⟨rfl,t,rfl⟩
  refine⟨_,rfl,UE W _ t,?_⟩
  have e1:iY s=(n,true):=by unfold iY;rw [ha]
  show AV.rel _ _ (.t [.s (.int (iY s).1),.s (.er (iY s).2)]) _
  rw [e1]
  exact⟨_,rfl,rfl,rfl,trivial⟩
 |none=>
  obtain⟨cs,e,fr,h1,tp,p,rfl⟩:=PG hT hN (g:=3) (p:=fun cs=>∃t v,cs= #[.iface t v]) (by unfold zO;simp)
  have hvar : W.var? Tryz.prog "strconv.ErrSyntax" = some #[.iface tp p] := by
   have hg : Tryz.prog.globalNamed "strconv.ErrSyntax" = some 3 := by kernel_rfl
   simp [World.var?,hg,h1]
  refine (Tryz.strconv_Atoi_err_var s hp ha tp p W hvar).mono ?_
  rintro e w' ⟨N,rfl,_,_,hB⟩
  refine⟨_,rfl,hB,?_⟩
  have e1:iY s=(0,false):=by unfold iY;rw [ha]
  show AV.rel _ _ (.t [.s (.int (iY s).1),.s (.er (iY s).2)]) _
  rw [e1]
  exact⟨_,rfl,rfl,⟨_,_,rfl⟩,trivial⟩
def adW (n:Int):ByteArray:=⟨(Lib.itoa n).toArray⟩
def afa:cn:=XX [.s .int] (fun n=>gJ≤n∧n≤imax) fun n=>.s (.str (adW n))
theorem ahy:Has Tryz.prog 191 afa:=by
 refine Has.lib ⟨_,Tryz.func191,by rfl,by decide⟩ (fun x=>⟨rfl,rfl⟩) fun (n:Int) (hp:gJ≤n∧n≤imax) W T β vs hT hN c6=>?_
 obtain⟨v,rfl⟩:∃v,vs=[v]:=by
  match vs,c6 with
  |[v],_=>exact⟨v,rfl⟩
  |[],h=>exact h.elim
  |_::_::_,h=>exact h.2.elim
 have hv:v= .int .i64 n:=c6.1
 subst hv
 obtain⟨cs,e,fr,h1,rfl⟩:=PG hT hN (g:=5) (p:=fun cs=>cs=(Lib.pow10Tab.map fun z=>Value.int .u64 z).toArray) (by unfold zO;simp)
 have hvar : Lib.TabIs Tryz.prog W "internal/strconv.uint64pow10" .u64 Lib.pow10Tab := by
  have hg : Tryz.prog.globalNamed "internal/strconv.uint64pow10" = some 5 := by kernel_rfl
  simp [Lib.TabIs,World.var?,hg,h1]
 refine (Tryz.strconv_Itoa n hp.1 hp.2 W hvar).mono ?_
 rintro e w' ⟨rfl,k,os,rfl⟩
 exact⟨_,rfl,X2 W k os,rfl⟩
theorem I1:∀l:List ByteArray,flat [.str 4096] l=l.map Value.string
 |[]=>rfl
 |x::l=>by rw [iQ,I1 l];rfl
def hZ (s sep:ByteArray):List ByteArray:=Lib.splitB sep 0 (Lib.countB s sep) s
def z8:cn:=XX [.s .str,.s .str] (fun (s,sep)=>s.size≤1000000∧1≤sep.size) fun (s,sep)=>.s (.vw ab (hZ s sep))
theorem FC:Has Tryz.prog 170 z8:=by
 refine Has.lib ⟨_,Tryz.func170,by rfl,by decide⟩ (fun x=>⟨rfl,rfl⟩) fun (x:ByteArray×ByteArray) (hp:x.1.size≤1000000∧1≤x.2.size) W T β vs hT hN c6=>?_
 obtain⟨s,sep⟩:=x
 obtain⟨v,u,rfl⟩:∃v u,vs=[v,u]:=by
  match vs,c6 with
  |[v,u],_=>exact⟨v,u,rfl⟩
  |[],h=>exact h.elim
  |[_],h=>exact h.2.elim
  |_::_::_::_,h=>exact h.2.2.elim
 have hv:v= .string s:=c6.1
 have hu:u= .string sep:=c6.2.1
 subst hv;subst hu
 obtain⟨cs,e,fr,h1,m,rfl⟩:=PG hT hN (g:=0) (p:=fun cs=>∃n,cs= #[.int .i64 n]) (by unfold zO;simp)
 have hm:W.cell? ⟨0,0,none⟩=some (.int .i64 m):=by rw [rl h1];rfl
 have hp1:s.size≤1000000:=hp.1
 have hs:s.size<4294967281:=by omega
 refine (Tryz.strings_Split s sep m W hs hm hp.2).mono ?_
 rintro e w' ⟨rfl,rfl⟩
 have hlen:(hZ s sep).length=Lib.countB s sep+1:=Lib.splitB_all sep hp.2 0 _ s rfl
 refine⟨_,rfl,(Below.refl _ _).alloc (ZB5 _) _,?_⟩
 show (SV.vw ab (hZ s sep)).rel _ β _
 refine .inr ⟨W.heap.size,0,Lib.countB s sep+1,_,_,_,?_,?_,ado (ZB5 _) (fr:=(0,0)) (Array.getElem?_push_size ..),?_⟩
 ·rw [hlen]
 ·rw [hlen];exact ZB5 _
 ·rw [I1]
  intro j v hj
  simpa [hZ] using hj
def zI (sep:ByteArray) (l:List ByteArray):ByteArray:=⟨(Lib.join (l.map (·.data.toList)) sep.data.toList).toArray⟩
def J0:cn:=XX [.s (.vz ab),.s .str] (fun (l,sep)=>(Lib.join (l.map (·.data.toList)) sep.data.toList).length≤1000000∧l.length≤1000000) fun (l,sep)=>.s (.str (zI sep l))
theorem PD:Has Tryz.prog 144 J0:=by
 refine Has.lib ⟨_,Tryz.func144,by rfl,by decide⟩ (fun x=>⟨rfl,rfl⟩) fun (x:List ByteArray×ByteArray) (hp:(Lib.join (x.1.map (·.data.toList)) x.2.data.toList).length≤1000000∧x.1.length≤1000000) W T β vs hT hN c6=>?_
 obtain⟨l,sep⟩:=x
 obtain⟨v,u,rfl⟩:∃v u,vs=[v,u]:=by
  match vs,c6 with
  |[v,u],_=>exact⟨v,u,rfl⟩
  |[],h=>exact h.elim
  |[_],h=>exact h.2.elim
  |_::_::_::_,h=>exact h.2.2.elim
 have hu:u= .string sep:=c6.2.1
 subst hu
 have hv:(SV.vz ab l).rel T β v:=c6.1
 rcases hv with ⟨rfl,p,cap,rfl⟩ |⟨b,o,cap,cs,rfl,hlc,dE,hw⟩
 ·refine (Tryz.strings_Join_none p cap sep W).mono ?_
  rintro e w' ⟨rfl,rfl⟩
  exact⟨_,rfl,Below.refl _ _,rfl⟩
 ·obtain⟨te,fr,hc⟩:=E5 hT dE
  have hp1:(Lib.join (l.map (·.data.toList)) sep.data.toList).length≤1000000:=hp.1
  have hp2:l.length≤1000000:=hp.2
  refine (Tryz.strings_Join b o cap l sep W (fun j x hj=>?_) ?_ (by omega) hlc (by omega)).mono ?_
  ·rw [rl hc]
   refine hw j _ ?_
   rw [I1,List.getElem?_map,hj];rfl
  ·rcases Nat.lt_or_ge b W.heap.size with h |h
   ·exact h
   ·rw [Array.getElem?_eq_none h] at hc;cases hc
  ·rintro e w' ⟨rfl,hB⟩
   exact⟨_,rfl,hB,rfl⟩
end GL
end Go.Proofs.YtclcgjhhehbdeaaGreatDoor
