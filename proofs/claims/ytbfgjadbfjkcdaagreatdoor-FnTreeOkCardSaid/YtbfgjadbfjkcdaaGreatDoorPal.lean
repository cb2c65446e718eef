/- FnTreeOk returns true for every code (its row lists package variables, tied by the card): part 12. -/
import Derived.LoopN
import Derived.Test.YtbfgjadbfjkcdaaGreatDoorPak
set_option maxHeartbeats 20000000
set_option linter.all false
namespace Go.Proofs.YtbfgjadbfjkcdaaGreatDoor
namespace GL
def vcP (P:Program) (N:Nat) (S:Sm) (Q':pb):Nat→Code→St→Prop
 |0,cd,τ=>TW P N cd τ Q'
 |n+1,.seq x y,τ=>vc P N S x τ (zp (fun τ'=>vcP P N S Q' n y τ') Q')
 |_+1,_,_=>False
theorem LJ {P:Program}{N:Nat}{S:Sm}{Q':pb}(hm:P.follows .mixedOrders=true) (hS:U5 P N S):∀(n:Nat) (cd:Code) (τ:St),vcP P N S Q' n cd τ→TW P N cd τ Q'
 |0,cd,τ,h=>h
 |n+1,.seq x y,τ,h=>TW.seq ((gr hm hS x τ _ h).mono fun e τ' hq=>by
  cases e with
  |normal=>exact LJ hm hS n y τ' hq
  |_=>exact hq)
 |n+1,.skip,τ,h=>h.elim
 |n+1,.region _ _ _,τ,h=>h.elim
 |n+1,.cond _ _ _,τ,h=>h.elim
 |n+1,.block _ _,τ,h=>h.elim
 |n+1,.loop _,τ,h=>h.elim
 |n+1,.scope _,τ,h=>h.elim
 |n+1,.exit _,τ,h=>h.elim
 |n+1,.label _,τ,h=>h.elim
 |n+1,.ret,τ,h=>h.elim
 |n+1,.rangeFunc _ _ _ _,τ,h=>h.elim
 |n+1,.goto _,τ,h=>h.elim
 |n+1,.refuse _,τ,h=>h.elim
theorem TC.aje {P:Program}{N:Nat}{sh:TypeId→Option (Bool×Nat)}{f:FuncId}{fn:Func}{cd:Code}{args bs:List AV}{mv:Bool}{post:AV→List AV→Prop}(hsh:∀t x,sh t=some x→Sh P t=some x)
  (hf:P.funcs[f]?=some fn) (hb:fn.body=some cd) (hN:fn.ntmps=N) (hlen:args.length≤N)
  (h:TW P N cd (entry args bs) (DE sh fn.results.toList bs.length mv post)):TC P f mv args bs post:=by
 intro W T β0 vs hT hnf c7 hbx qu
 refine calls_of_wp hf hb ?_
 have hvl:=HC c7
 let c:Ctx:=⟨W,T,(cF 0 bs.length).map β0⟩
 have hlb:∀i,live (entry args bs) i→i<bs.length:=fun i hi=>by
  obtain⟨av,hav⟩:=Option.ne_none_iff_exists'.1 (kI hi)
  rcases jD hav with ⟨j,e,_⟩ |⟨j,e,hj⟩
  ·cases e
  ·cases e;exact (ZC0.1 hj).1
 have aif:Holds N c T β0 (entry args bs) { tmps:=vs.toArray++Array.replicate (fn.ntmps-vs.toArray.size) undef,defers:=[] } W:= {
  defs:=rfl
  size:=by simp;omega
  EN:=by show ((cF 0 bs.length).map β0).length≤1000;rw [ZG3,kO];exact qu.EN
  iL:=fun i av hi=>by
   rcases jD hi with ⟨j,e,hj⟩ |⟨j,e,_⟩
   ·cases e
    obtain⟨v,hv,hr⟩:=OK c7 hj
    refine⟨v,?_,hr⟩
    have C3:i<vs.length:=(ZC0.1 hv).1
    rw [Array.getElem?_append_left (by simpa using C3)]
    simpa using hv
   ·cases e
  boxes:=fun i av hi hz=>by
   rcases jD hi with ⟨j,e,_⟩ |⟨j,e,hj⟩
   ·cases e
   ·cases e;exact (qu.at_ i av hj).2.2.1
  apart:=fun i hi=>by
   have bU:=hlb i hi
   obtain⟨_,h1,_⟩:=qu.at_ i _ (ZB2 bU)
   have cr:β0 i∈(cF 0 bs.length).map β0:=List.mem_map.2 ⟨i,fY.2 ⟨by omega,by omega⟩,rfl⟩
   exact⟨h1,fun _=>cr,fun h=>absurd qu.EN (by omega),.inr cr⟩
  handed:=fun i b hb hi=>by
   have bU:=hlb i hi
   have hb':((cF 0 bs.length).map β0)[i]?=some b:=hb
   rw [ZG6,jO _ _ _ bU] at hb'
   simpa using hb'
  inj:=fun i j hi hj e=>qu.inj i j (hlb i hi) (hlb j hj) e
  named:=fun r av hr i hi=>by
   rcases jD hr with ⟨j,rfl,hj⟩ |⟨j,rfl,hj⟩
   ·exact xj (hbx av (ZB7 hj) i hi)
   ·exact xj ((qu.at_ j av hj).2.2.2 i hi)
  typed:=hT
  old:=fun b hb=>by
   show (T b).map BK.un=T b
   cases hk:T b with
   |none=>rfl
   |some k=>
    cases k with
    |fz ek n cs=>exact absurd hk (hnf.no b ek n cs)
    |_=>rfl
  frame:=fun _ _ _ _=>rfl
  gd:=ZB6 _
  os:=rfl
  tape:=rfl
  output:=rfl
  oZ:=hnf.oZ }
 refine Code.wp_mono ?_ (h c _ W ⟨T,_,aif⟩)
 rintro e a w ⟨τ,hr,hq⟩
 have hd:a.defers=[]:=by obtain⟨_,_,hh⟩:=hr;exact hh.defs
 cases e with
 |normal=>
  obtain⟨v,hv,r,os,T',β',h1⟩:=tX (args:=args) hsh hnf qu.EN hr hq
  exact⟨hd,v,hv,v,r,os,T',β',rfl,h1⟩
 |ret=>
  obtain⟨v,hv,r,os,T',β',h1⟩:=tX (args:=args) hsh hnf qu.EN hr hq
  exact⟨hd,v,hv,v,r,os,T',β',rfl,h1⟩
 |_=>exact hq.elim
theorem Has.ofP (k : Nat) (ex wr pt : Nat → Bool) {l : List (FuncId × Con)} (hl : AllHas Tryz.prog l) {f : FuncId} {fn : Func} {cd : Code} {C : Con} (hf : Tryz.prog.funcs[f]? = some fn) (hb : fn.body = some cd) (hnm : fn.name ≠ "runtime.NumGoroutine") (hlen : C.A.length ≤ fn.ntmps)
  (h:∀x y,C.pre x y→vcP Tryz.prog fn.ntmps (DZ (D9 fn.ntmps l ex wr pt)) (DE (D9 fn.ntmps l ex wr pt).sh fn.results.toList C.B.length C.mv (fun r os=>∃z j,C.φ x y z∧r=C.r x y z∧os++List.replicate j .zz=C.o x y z∧(C.o x y z).length=C.B.length+C.nf)) k cd (entry (APs.gh C.A x) (APs.gh C.B y))):Has Tryz.prog f C:=by
 refine⟨fun x y hp=>?_,fn,hf,by rw [hb];rfl,hnm⟩
 have hx:(APs.gh C.A x).length≤fn.ntmps:=by rw [APs.fF];exact hlen
 have hy:(APs.gh C.B y).length=C.B.length:=APs.fF C.B y
 refine TC.ZM (TC.aje (P:=Tryz.prog) (N:=fn.ntmps) (sh:=(D9 fn.ntmps l ex wr pt).sh) (f:=f) (fn:=fn) (cd:=cd) (args:=APs.gh C.A x) (bs:=APs.gh C.B y) (mv:=C.mv) (post:=fun r os=>∃z j,C.φ x y z∧r=C.r x y z∧os++List.replicate j .zz=C.o x y z∧(C.o x y z).length=C.B.length+C.nf) (Env.DX (oM (n:=fn.ntmps) (ex:=ex) (wr:=wr) (pt:=pt) hl)) hf hb rfl hx (by rw [hy];exact LJ mixed (oG (oM hl)) k cd _ (h x y hp))) ?_
 rintro r os ⟨z,j,h1,h2,h3,h4⟩
 exact⟨j,z,h1,h2,h3,by rw [h3];exact h4⟩
def xk:Nat→Code→Code
 |0,cd=>cd
 |n+1,.seq _ y=>xk n y
 |_+1,cd=>cd
def KK (fn:Func):Code:=fn.body.getD .skip
theorem zn {l:List (FuncId×Con)}{n:Nat}{ex wr pt:Nat→Bool}(hl:AllHas Tryz.prog l) {k:Nat}{τ:St}{Q':pb}{cd:Code}{ι:Type}(J:ι→AX) (φ:ι→Prop) (rest:Code)
  (ht:∀x,φ x→vc Tryz.prog n (DZ (D9 n l ex wr pt)) rest (D6.ap (J x)) Q')
  (hk:(∀x,φ x→TW Tryz.prog n rest (D6.ap (J x)) Q')→vcP Tryz.prog n (DZ (D9 n l ex wr pt)) Q' k cd τ):vcP Tryz.prog n (DZ (D9 n l ex wr pt)) Q' k cd τ:=
 hk fun x hx=>gr mixed (oG (oM hl)) _ _ _ (ht x hx)
theorem joinTail {n:Nat}{τ:St}{Q':pb}{rest:Code}{ι:Type}{J:ι→AX}{φ:ι→Prop}(tail:∀x,φ x→TW Tryz.prog n rest (D6.ap (J x)) Q') (x:ι) (sg:List (Nat×Nat)) (h:φ x) (hs:E2 sg τ τ [] (J x)):TW Tryz.prog n rest τ Q':=
 TW.agv [] (J x) sg hs (tail x h)
end GL
namespace GL
def vcR (P:Program) (N:Nat) (S:Sm) (Q':pb):Nat→Code→St→Prop
 |0,_,_=>False
 |n+1,cd,τ=>vc P N S cd τ (zp (fun τ'=>vcR P N S Q' n cd τ') Q')
theorem BA {P:Program}{N:Nat}{S:Sm}{Q':pb}(hm:P.follows .mixedOrders=true) (hS:U5 P N S):∀(n:Nat) (cd:Code) (τ:St),vcR P N S Q' n cd τ→∀c a w,Rel N c τ a w→Code.rounds P cd (lift N c Q') n a w
 |0,_,_,h,_,_,_,_=>h.elim
 |n+1,cd,τ,h,c,a,w,hr=>by
  rw [rounds_succ]
  refine Code.wp_mono ?_ (gr hm hS cd τ _ h c a w hr)
  rintro e a2 w2 ⟨τ2,hr2,hq⟩
  cases e with
  |normal=>exact BA hm hS n cd τ2 hq c a2 w2 hr2
  |_=>exact⟨τ2,hr2,hq⟩
theorem alQ {l:List (FuncId×Con)}{n:Nat}{ex wr pt:Nat→Bool}(hl:AllHas Tryz.prog l) {τ:St}{Q':pb}{cd:Code}(k:Nat) (h:vcR Tryz.prog n (DZ (D9 n l ex wr pt)) Q' k cd τ):TW Tryz.prog n (.loop cd) τ Q':=fun c a w hr=>
 wp_loop_rounds k (BA mixed (oG (oM (n:=n) (ex:=ex) (wr:=wr) (pt:=pt) hl)) k cd τ h c a w hr)
end GL
namespace GL
abbrev bf:=Int×Int×Int×Int×Int×Int×Int
abbrev fu:=Int×Int×Int×Int×Int×Int×Int×Int×Int×Int
abbrev Opr:=Int×ByteArray×ByteArray×Int×ByteArray
abbrev eW:=ByteArray×Int
abbrev ay:=List ByteArray×List Int×List Int×Int×List Pt×Int×List Pt×Bool
abbrev ay.rows (s:ay):List ByteArray:=s.1
abbrev ay.refs (s:ay):List Int:=s.2.1
abbrev ay.last (s:ay):List Int:=s.2.2.1
abbrev ay.ck (s:ay):Int:=s.2.2.2.1
abbrev ay.gone (s:ay):List Pt:=s.2.2.2.2.1
abbrev ay.bY (s:ay):Int:=s.2.2.2.2.2.1
abbrev ay.dead (s:ay):List Pt:=s.2.2.2.2.2.2.1
abbrev ay.same (s:ay):Bool:=s.2.2.2.2.2.2.2
abbrev stB (b0 b1 b2 b3 b4:Nat):List SP:=[.xb b0 ab,.xb b1 ag,.xb b2 ag,.int,.xb b3 ae,.int,.xb b4 ae,.bool]
abbrev xE:List SP:=[.vz ab,.vz ag,.vz ag,.int,.vz ae,.int,.vz ae,.bool]
def k9 (b0 b1 b2 b3 b4:Nat) (s:ay):List SV:=[.xs b0 1 0 s.rows.length,.xs b1 1 0 s.refs.length,.xs b2 1 0 s.last.length,.int s.ck,.xs b3 5 0 s.gone.length,.int s.bY,.xs b4 5 0 s.dead.length,.q s.same]
def GR (s:ay):List AV:=[.rs ab s.rows,.rs ag s.refs,.rs ag s.last,.rs ae s.gone,.rs ae s.dead]
theorem uZ {b0 b1 b2 b3 b4 m1 m2 m3 m4 m5:Nat}{tx kp:Int}{sm:Bool}{s:ay}(h1:m1=s.rows.length) (h2:m2=s.refs.length) (h3:m3=s.last.length) (h4:tx=s.ck) (h5:m4=s.gone.length) (h6:kp=s.bY) (h7:m5=s.dead.length) (h8:sm=s.same):
  [SV.xs b0 1 0 m1,.xs b1 1 0 m2,.xs b2 1 0 m3,.int tx,.xs b3 5 0 m4,.int kp,.xs b4 5 0 m5,.q sm]=k9 b0 b1 b2 b3 b4 s:=by
 subst h1 h2 h3 h4 h5 h6 h7 h8;rfl
theorem ahy {ro:List ByteArray}{rf la:List Int}{go de:List Pt}{s:ay}(h1:ro=s.rows) (h2:rf=s.refs) (h3:la=s.last) (h4:go=s.gone) (h5:de=s.dead):[AV.rs ab ro,.rs ag rf,.rs ag la,.rs ae go,.rs ae de]=GR s:=by
 subst h1 h2 h3 h4 h5;rfl
def whole (m1 m2 m3 m4 m5:Nat) (ro:List ByteArray) (rf la:List Int) (go de:List Pt):Prop:=m1=ro.length∧m2=rf.length∧m3=la.length∧m4=go.length∧m5=de.length
def U8 {α:Type}(m:Nat) (l:List α):Prop:=m=l.length
abbrev xC (n:Int):Int:=IntKind.i64.wrap n
theorem ajf {ek:EK}(l:List (EK.Ty ek)) (k:Nat):nth ek l k=l.getD k (EK.zero ek):=by
 unfold nth
 cases h:l[k]?<;>simp [List.getD,h]
theorem nC {ek:EK}{l:List (EK.Ty ek)}{k:Nat}{x:EK.Ty ek}(h:k<l.length):nth ek (l.set k x) k=x:=by
 unfold nth
 rw [List.getElem?_set_self h]
theorem j9 (k:Nat):agP 0 k=k:=rfl
theorem a8 {P:Prop}(h:P:=by first|exact⟨(),trivial⟩|(dsimp only [dj,j9];omega)|(simp only [Option.getD_some,Option.getD_none,dj,j9,List.length_append,List.length_cons,List.length_nil];omega)|(simp only [decide_eq_true_eq,decide_eq_false_iff_not,dj,j9,gO,imax,Int.toNat_natCast,Option.getD_some,Option.getD_none,List.length_append,List.length_cons,List.length_nil] at *;omega)):P:=h
theorem ch {P:Prop}(h:P:=by repeat' (first|exact trivial|apply And.intro|exact Nat.le_of_eq (Nat.zero_add _)|(simp only [Option.getD_some,Option.getD_none,dj,j9,List.length_append,List.length_cons,List.length_nil];omega))):P:=h
def z8 (rf la:List Int) (k:Nat):List Int×List Int:=
 (rf.set k (xC (nth ag rf k-1)),if xC (nth ag rf k-1)=0 then la.set k 0 else la)
def yp (sp:List Int×List Int) (k:Int):Prop:=0≤k∧k<sp.1.length∧k<sp.2.length
def VY (sp:List Int×List Int) (k:Int):AV:=.a [.xs 0 1 0 sp.1.length,.xs 1 1 0 sp.2.length]
def abw (sp:List Int×List Int) (k:Int):List AV:=[.rs ag (z8 sp.1 sp.2 k.toNat).1,.rs ag (z8 sp.1 sp.2 k.toNat).2]
def KA:Con where
 A:=[.a [.xb 0 ag,.xb 1 ag],.s .int]
 B:=[.r ag,.r ag]
 pre:=fun x b=>U8 x.1.1 (b.1)∧U8 x.1.2 (b.2)∧yp ((b.1,b.2)) (x.2)
 α:=fun _ _=>Unit
 φ:=fun _ _ _=>True
 r:=fun x b _=>VY ((b.1,b.2)) (x.2)
 o:=fun x b _=>abw ((b.1,b.2)) (x.2)
 nf:=0
set_option maxRecDepth 100000 in
theorem aee:Has Tryz.prog 84 KA:=by
 refine Has.ofE (fun _=>true) (fun d=>Nat.beq d 13) (fun _=>false) (l:=[]) trivial (fn:=Tryz.f84) Tryz.func84 rfl (by decide) (aZ rfl) ?_
 rintro⟨⟨(akO:Nat),(akN:Nat)⟩,(k:Int)⟩ ⟨(dB:List Int),(eK:List Int)⟩ ⟨(ah3:akO=List.length dB),(ah2:akN=List.length eK),(hp:yp (dB,eK) k)⟩
 subst ah3 ah2
 show vc _ _ _ _ (entry [.a [.xs 0 1 0 dB.length,.xs 1 1 0 eK.length],.int k] [.rs ag dB,.rs ag eK]) _
 obtain⟨h3,h4,h5⟩:=hp
 dsimp only at h4 h5
 have hk:k.toNat<dB.length:=by omega
 refine⟨[.s 2],[.s 5],rfl,[.s 5,.b 1002],[.s 6],rfl,[.s 1],[.s 7],rfl,[.s 2],[.s 8],rfl,[.s 8,.b 1002],[.s 9],rfl,[.s 1],[.s 10],rfl,[.s 9,.s 10],[.s 11],rfl,⟨?_,?_⟩,[.s 11,.b 0],[.s 12],rfl,?_,[.s 12],[.s 13],rfl,[.s 6,.s 7],[.s 14],rfl,⟨?_,?_⟩,[.s 14,.s 13,.b 0],[.b 0],rfl,?_,⟨?_,?_⟩,?_,fun w1=>⟨⟨?_,?_⟩,?_,?_⟩,fun w2=>?_⟩
 all_goals first|refine aw ?_|refine ax ?_|exact ba|exact a8|(simp only [j9,ZC3];omega)|skip
 ·have h:nth ag (dB.set k.toNat _) k.toNat=0:=aE w1
  rw [nC hk] at h
  refine⟨[],[],_,_,_,rfl,az,(),aa,?_,?_,rfl⟩
  ·rfl
  ·show [AV.rs ag (dB.set _ _),AV.rs ag (eK.set _ _)]=[AV.rs ag (dB.set _ _),AV.rs ag (if _ then _ else _)]
   simp only [j9] at h ⊢
   rw [if_pos h]
 ·have h:¬nth ag (dB.set k.toNat _) k.toNat=0:=aA w2
  rw [nC hk] at h
  refine⟨[],[],_,_,_,rfl,az,(),aa,?_,?_,rfl⟩
  ·rfl
  ·show [AV.rs ag (dB.set _ _),AV.rs ag eK]=[AV.rs ag (dB.set _ _),AV.rs ag (if _ then _ else _)]
   simp only [j9] at h ⊢
   rw [if_neg h]
def ay.n64 (s:ay):Prop:=s.rows.length=64∧s.refs.length=64∧s.last.length=64
def uI (s:ay) (k:Nat):Bool:=decide (nth ag (z8 s.refs s.last k).1 k=0)
def gf (s:ay) (k:Nat):ay:=
 (bif uI s k then s.rows.set k ByteArray.empty else s.rows,(z8 s.refs s.last k).1,(z8 s.refs s.last k).2,s.ck,s.gone,s.bY,s.dead,s.same)
theorem C5 (rf la:List Int) (k:Nat):(z8 rf la k).1.length=rf.length∧(z8 rf la k).2.length=la.length:=by
 unfold z8
 refine⟨ZC3,?_⟩
 show List.length (if _ then _ else _)=_
 split<;>simp
theorem xl (s:ay) (k:Nat):(gf s k).rows.length=s.rows.length∧(gf s k).refs.length=s.refs.length∧(gf s k).last.length=s.last.length:=by
 refine⟨?_,(C5 s.refs s.last k).1,(C5 s.refs s.last k).2⟩
 show List.length (bif _ then _ else _)=_
 cases uI s k<;>simp
def p6 (S:ay) (k:Int):Prop:=S.n64∧0≤k∧k<64
def VU (S:ay) (k:Int):AV:=.a (k9 0 1 2 3 4 (gf S k.toNat))
def abr (S:ay) (k:Int):List AV:=GR (gf S k.toNat)
def qC:Con where
 A:=[.a (stB 0 1 2 3 4),.s .int]
 B:=[.r ab,.r ag,.r ag,.r ae,.r ae]
 pre:=fun x b=>whole x.1.1 x.1.2.1 x.1.2.2.1 x.1.2.2.2.2.1 x.1.2.2.2.2.2.2.1 (b.1) (b.2.1) (b.2.2.1) (b.2.2.2.1) (b.2.2.2.2)∧p6 ((b.1,b.2.1,b.2.2.1,x.1.2.2.2.1,b.2.2.2.1,x.1.2.2.2.2.2.1,b.2.2.2.2,x.1.2.2.2.2.2.2.2)) (x.2)
 α:=fun _ _=>Unit
 φ:=fun _ _ _=>True
 r:=fun x b _=>VU ((b.1,b.2.1,b.2.2.1,x.1.2.2.2.1,b.2.2.2.1,x.1.2.2.2.2.2.1,b.2.2.2.2,x.1.2.2.2.2.2.2.2)) (x.2)
 o:=fun x b _=>abr ((b.1,b.2.1,b.2.2.1,x.1.2.2.2.1,b.2.2.2.1,x.1.2.2.2.2.2.1,b.2.2.2.2,x.1.2.2.2.2.2.2.2)) (x.2)
 nf:=0
set_option maxRecDepth 100000 in
theorem IS:Has Tryz.prog 51 qC:=by
 refine Has.ofE (fun _=>true) (fun _=>false) (fun _=>false) (l:=[(84,KA)]) ⟨aee,trivial⟩ (fn:=Tryz.f51) Tryz.func51 rfl (by decide) (aZ rfl) ?_
 rintro⟨⟨(A3:Nat),(A2:Nat),(A1:Nat),(ao:Int),(AZ:Nat),(aq:Int),(AY:Nat),(ar:Bool)⟩,(k:Int)⟩ ⟨(aj:List ByteArray),(ak:List Int),(an:List Int),(ah:List Pt),(ai:List Pt)⟩ ⟨⟨(gE:A3=List.length aj),(gD:A2=List.length ak),(gC:A1=List.length an),(gB:AZ=List.length ah),(gA:AY=List.length ai)⟩,(hp:p6 (aj,ak,an,ao,ah,aq,ai,ar) k)⟩
 subst gE gD gC gB gA
 show vc _ _ _ _ (entry [.a [.xs 0 1 0 aj.length,.xs 1 1 0 ak.length,.xs 2 1 0 an.length,.int ao,.xs 3 5 0 ah.length,.int aq,.xs 4 5 0 ai.length,.q ar],.int k] [.rs ab aj,.rs ag ak,.rs ag an,.rs ae ah,.rs ae ai]) _
 obtain⟨⟨l1,l2,l3⟩,h6,h7⟩:=hp
 dsimp only [ay.rows,ay.refs,ay.last] at l1 l2 l3
 have hk:k.toNat<ak.length:=by omega
 have hk2:k.toNat<(z8 ak an k.toNat).1.length:=by rw [(C5 _ _ _).1];exact hk
 have hD:=xl (aj,ak,an,ao,ah,aq,ai,ar) k.toNat
 refine⟨⟨⟨⟨aa,aa,aa⟩,aa,aa⟩,?_,?_,?_,?_,?_⟩,fun x1 w2=>⟨⟨?_,?_⟩,?_,fun w3=>⟨⟨?_,?_⟩,?_,?_⟩,fun w4=>?_⟩⟩
 all_goals first|refine aw ?_|refine ax ?_|exact ba|(dsimp only [KA,yp];omega)|exact a8|exact hk2|skip
 all_goals
  refine⟨[],[],_,_,_,rfl,az,(),aa,?_,?_,rfl⟩
  ·exact congrArg AV.a (uZ (s:=gf (aj,ak,an,ao,ah,aq,ai,ar) k.toNat) hD.1.symm hD.2.1.symm hD.2.2.symm rfl rfl rfl rfl rfl)
  ·refine ahy (s:=gf (aj,ak,an,ao,ah,aq,ai,ar) k.toNat) ?_ rfl rfl rfl rfl
   show _=bif _ then _ else _
   first
    |rw [show uI (aj,ak,an,ao,ah,aq,ai,ar) k.toNat=true from w3];rfl
    |rw [show uI (aj,ak,an,ao,ah,aq,ai,ar) k.toNat=false from w4];rfl
def cN (s:ay) (p:Pt):ay:=
 bif au p then s else
 bif decide (p.2.1≤s.bY) then (s.rows,s.refs,s.last,s.ck,s.gone,s.bY,s.dead++[p],s.same) else
 bif decide (p.2.1<s.ck) then (s.rows,s.refs,s.last,s.ck,s.gone++[p],s.bY,s.dead,s.same) else gf s p.1.toNat
theorem yY {s:ay}{p:Pt}(h:au p=true):cN s p=s:=by unfold cN;rw [h];rfl
theorem y5 {s:ay}{p:Pt}(h:au p=false) (h1:decide (p.2.1≤s.bY)=true):cN s p=(s.rows,s.refs,s.last,s.ck,s.gone,s.bY,s.dead++[p],s.same):=by unfold cN;rw [h,h1];rfl
theorem yZ {s:ay}{p:Pt}(h:au p=false) (h1:decide (p.2.1≤s.bY)=false) (h2:decide (p.2.1<s.ck)=true):cN s p=(s.rows,s.refs,s.last,s.ck,s.gone++[p],s.bY,s.dead,s.same):=by unfold cN;rw [h,h1,h2];rfl
theorem y0 {s:ay}{p:Pt}(h:au p=false) (h1:decide (p.2.1≤s.bY)=false) (h2:decide (p.2.1<s.ck)=false):cN s p=gf s p.1.toNat:=by unfold cN;rw [h,h1,h2];rfl
def dJ (S:ay) (p:Pt):Prop:=S.n64∧0≤p.1∧p.1<64∧S.gone.length≤1048000∧S.dead.length≤1048000
def VT (S:ay) (p:Pt):AV:=.a (k9 0 1 2 5 6 (cN S p))
def jS (S:ay) (p:Pt):List AV:=[.rs ab (cN S p).rows,.rs ag (cN S p).refs,.rs ag (cN S p).last,.zz,.zz,.rs ae (cN S p).gone,.rs ae (cN S p).dead]
def cL:Con where
 A:=[.a (stB 0 1 2 3 4),.a [.int,.int,.int,.int,.int]]
 B:=[.r ab,.r ag,.r ag,.r ae,.r ae]
 pre:=fun x b=>whole x.1.1 x.1.2.1 x.1.2.2.1 x.1.2.2.2.2.1 x.1.2.2.2.2.2.2.1 (b.1) (b.2.1) (b.2.2.1) (b.2.2.2.1) (b.2.2.2.2)∧dJ ((b.1,b.2.1,b.2.2.1,x.1.2.2.2.1,b.2.2.2.1,x.1.2.2.2.2.2.1,b.2.2.2.2,x.1.2.2.2.2.2.2.2)) (x.2)
 α:=fun _ _=>Unit
 φ:=fun _ _ _=>True
 r:=fun x b _=>VT ((b.1,b.2.1,b.2.2.1,x.1.2.2.2.1,b.2.2.2.1,x.1.2.2.2.2.2.1,b.2.2.2.2,x.1.2.2.2.2.2.2.2)) (x.2)
 o:=fun x b _=>jS ((b.1,b.2.1,b.2.2.1,x.1.2.2.2.1,b.2.2.2.1,x.1.2.2.2.2.2.1,b.2.2.2.2,x.1.2.2.2.2.2.2.2)) (x.2)
 nf:=2
 mv:=true
set_option maxRecDepth 100000 in
theorem gz:Has Tryz.prog 50 cL:=by
 refine Has.ofE (fun _=>true) (fun _=>false) (fun _=>false) (l:=[(26,bm),(51,qC)]) ⟨cB,IS,trivial⟩ (fn:=Tryz.f50) Tryz.func50 rfl (by decide) (aZ rfl) ?_
 rintro⟨⟨(A3:Nat),(A2:Nat),(A1:Nat),(ao:Int),(AZ:Nat),(aq:Int),(AY:Nat),(ar:Bool)⟩,⟨(p1:Int),(p2:Int),(p3:Int),(p4:Int),(p5:Int)⟩⟩ ⟨(aj:List ByteArray),(ak:List Int),(an:List Int),(ah:List Pt),(ai:List Pt)⟩ ⟨⟨(gE:A3=List.length aj),(gD:A2=List.length ak),(gC:A1=List.length an),(gB:AZ=List.length ah),(gA:AY=List.length ai)⟩,(hp:dJ (aj,ak,an,ao,ah,aq,ai,ar) (p1,p2,p3,p4,p5))⟩
 subst gE gD gC gB gA
 show vc _ _ _ _ (entry [.a [.xs 0 1 0 aj.length,.xs 1 1 0 ak.length,.xs 2 1 0 an.length,.int ao,.xs 3 5 0 ah.length,.int aq,.xs 4 5 0 ai.length,.q ar],.a [.int p1,.int p2,.int p3,.int p4,.int p5]] [.rs ab aj,.rs ag ak,.rs ag an,.rs ae ah,.rs ae ai]) _
 obtain⟨⟨l1,l2,l3⟩,(h6:0≤p1),(h7:p1<64),h8,h9⟩:=hp
 dsimp only [ay.rows,ay.refs,ay.last,ay.gone,ay.dead] at l1 l2 l3 h8 h9
 refine⟨⟨⟨⟨aa,aa,aa,aa,aa,aa⟩,aa⟩,aa⟩,fun x1 w2=>⟨fun w3=>?_,fun w4=>⟨fun w5=>⟨aa,⟨⟨?_,?_⟩,?_,?_⟩,?_⟩,fun w6=>⟨fun w7=>⟨aa,⟨⟨?_,?_⟩,?_,?_⟩,?_⟩,fun w8=>⟨⟨⟨⟨aa,aa,aa,aa,aa,aa,aa,aa,aa⟩,aa,aa⟩,⟨?_,?_,?_,?_,?_⟩,⟨?_,?_,?_⟩,?_,?_⟩,fun x9 dq=>?_⟩⟩⟩⟩⟩
 all_goals first|refine aw ?_|refine ax ?_|exact ba|(dsimp only [bm,cj];omega)|(dsimp only [qC,p6];omega)|exact a8|(simp only [dj,ZA1,ZA4];omega)|exact l1|exact l2|exact l3|skip
 ·refine⟨[3,4],[],_,_,_,rfl,az,(),aa,?_,?_,rfl⟩
  ·show _=AV.a (k9 0 1 2 5 6 (cN (aj,ak,an,ao,ah,aq,ai,ar) (p1,p2,p3,p4,p5)));rw [yY w3];rfl
  ·show _=jS (aj,ak,an,ao,ah,aq,ai,ar) (p1,p2,p3,p4,p5);unfold jS;rw [yY w3];rfl
 ·refine⟨[3,1000000023],[],_,_,_,rfl,az,(),aa,?_,?_,rfl⟩
  ·show _=AV.a (k9 0 1 2 5 6 (cN (aj,ak,an,ao,ah,aq,ai,ar) (p1,p2,p3,p4,p5)));rw [y5 w4 w5]
   exact congrArg AV.a (uZ rfl rfl rfl rfl rfl rfl ZA0.symm rfl)
  ·show _=jS (aj,ak,an,ao,ah,aq,ai,ar) (p1,p2,p3,p4,p5);unfold jS;rw [y5 w4 w5];rfl
 ·refine⟨[1000000035,4],[],_,_,_,rfl,az,(),aa,?_,?_,rfl⟩
  ·show _=AV.a (k9 0 1 2 5 6 (cN (aj,ak,an,ao,ah,aq,ai,ar) (p1,p2,p3,p4,p5)));rw [yZ w4 w6 w7]
   exact congrArg AV.a (uZ rfl rfl rfl rfl ZA0.symm rfl rfl rfl)
  ·show _=jS (aj,ak,an,ao,ah,aq,ai,ar) (p1,p2,p3,p4,p5);unfold jS;rw [yZ w4 w6 w7];rfl
 ·refine⟨[3,4],[],_,_,_,rfl,az,(),aa,?_,?_,rfl⟩
  ·show _=AV.a (k9 0 1 2 5 6 (cN (aj,ak,an,ao,ah,aq,ai,ar) (p1,p2,p3,p4,p5)));rw [y0 w4 w6 w8];rfl
  ·show _=jS (aj,ak,an,ao,ah,aq,ai,ar) (p1,p2,p3,p4,p5);unfold jS;rw [y0 w4 w6 w8];rfl
end GL
namespace GL
def sk (n:Int):Prop:=True
def aa4 (n:Int):AV:=.q (iC n 8 63)
def adp (n:Int):List AV:=[]
def o7:Con where
 A:=[.s .int]
 B:=[]
 pre:=fun x b=>sk x
 α:=fun _ _=>Unit
 φ:=fun _ _ _=>True
 r:=fun x b _=>aa4 x
 o:=fun x b _=>adp x
 nf:=0
set_option maxRecDepth 100000 in
theorem zS:Has Tryz.prog 55 o7:=by
 refine Has.ofE (fun _=>true) (fun _=>false) (fun _=>false) (l:=[(24,dE)]) ⟨iA,trivial⟩ (fn:=Tryz.f55) Tryz.func55 rfl (by decide) (aZ rfl) ?_
 rintro (n:Int) _ (hp:sk n)
 show vc _ _ _ _ (entry [.int n] []) _
 refine⟨⟨⟨aa,aa,aa,aa⟩,aa⟩,fun x1 w2=>?_⟩
 refine⟨[],[],_,_,_,rfl,az,(),aa,?_,?_,rfl⟩
 ·rfl
 ·rfl
def vj (s:ByteArray):Prop:=True
def RG (s:ByteArray):AV:=.q (iC s.size 1 128)
def WK (s:ByteArray):List AV:=[]
def DJ:Con where
 A:=[.s .str]
 B:=[]
 pre:=fun x b=>vj x
 α:=fun _ _=>Unit
 φ:=fun _ _ _=>True
 r:=fun x b _=>RG x
 o:=fun x b _=>WK x
 nf:=0
set_option maxRecDepth 100000 in
theorem ab2:Has Tryz.prog 86 DJ:=by
 refine Has.ofE (fun _=>true) (fun _=>false) (fun _=>false) (l:=[(24,dE)]) ⟨iA,trivial⟩ (fn:=Tryz.f86) Tryz.func86 rfl (by decide) (aZ rfl) ?_
 rintro (s:ByteArray) _ (hp:vj s)
 show vc _ _ _ _ (entry [.str s] []) _
 refine⟨⟨⟨aa,aa,aa,aa⟩,aa⟩,fun x1 w2=>?_⟩
 refine⟨[],[],_,_,_,rfl,az,(),aa,?_,?_,rfl⟩
 ·rfl
 ·rfl
def a6 (p:Pt):Bool:=au p||(iC p.1 8 63&&iC p.2.1 1 900&&iC p.2.2.1 1 128&&iC p.2.2.2.1 0 99460728&&iC p.2.2.2.2 0 2)
def ee (p:Pt):Prop:=True
def aa7 (p:Pt):AV:=.q (a6 p)
def adw (p:Pt):List AV:=[]
def cY:Con where
 A:=[.a [.int,.int,.int,.int,.int]]
 B:=[]
 pre:=fun x b=>ee x
 α:=fun _ _=>Unit
 φ:=fun _ _ _=>True
 r:=fun x b _=>aa7 x
 o:=fun x b _=>adw x
 nf:=0
set_option maxRecDepth 100000 in
theorem iB:Has Tryz.prog 25 cY:=by
 refine Has.ofE (fun _=>true) (fun _=>false) (fun _=>false) (l:=[(26,bm),(55,o7),(24,dE)]) ⟨cB,zS,iA,trivial⟩ (fn:=Tryz.f25) Tryz.func25 rfl (by decide) (aZ rfl) ?_
 rintro⟨(p1:Int),(p2:Int),(p3:Int),(p4:Int),(p5:Int)⟩ _ (hp:ee (p1,p2,p3,p4,p5))
 show vc _ _ _ _ (entry [.a [.int p1,.int p2,.int p3,.int p4,.int p5]] []) _
 refine⟨⟨⟨⟨aa,aa,aa,aa,aa,aa⟩,aa⟩,aa⟩,fun x1 w2=>⟨fun w3=>?_,fun w4=>⟨⟨⟨aa,aa⟩,aa⟩,fun x5 w6=>⟨aa,fun w7=>⟨⟨⟨aa,aa,aa,aa⟩,aa⟩,fun x8 w9=>⟨aa,fun dq=>⟨⟨⟨aa,aa,aa,aa⟩,aa⟩,fun kE dI=>⟨aa,fun iJ=>⟨⟨⟨aa,aa,aa,aa⟩,aa⟩,fun x14 pe=>⟨aa,fun kj=>⟨⟨⟨aa,aa,aa,aa⟩,aa⟩,fun x17 qX=>?_⟩,fun oB=>?_⟩⟩,fun uw=>?_⟩⟩,fun zm=>?_⟩⟩,fun zl=>?_⟩⟩⟩⟩
 all_goals
  refine⟨[],[],_,_,_,rfl,az,(),aa,?_,?_,rfl⟩
  ·show AV.q _=AV.q _
   congr 1
   simp_all [a6]
  ·rfl
def Y5 (p:Int×Int) (c:Int):Int×Int:=((p.1+c+1) % 9973,(p.2+(p.1+c+1) % 9973) % 9973)
def r7 (s:ByteArray):Nat→Int×Int
 |0=>(1,0)
 |k+1=>Y5 (r7 s k) (bN s k)
def qR (s:ByteArray):Int:=(r7 s s.size).1*9973+(r7 s s.size).2
theorem zr (s:ByteArray):∀k,0≤(r7 s k).1∧(r7 s k).1≤9972∧0≤(r7 s k).2∧(r7 s k).2≤9972
 |0=>by simp [r7]
 |k+1=>by
  have:=zr s k
  simp only [r7,Y5]
  omega
theorem aku (s:ByteArray):0≤qR s∧qR s≤99460728:=by
 have:=zr s s.size
 unfold qR
 omega
def jQ (s:ByteArray):Prop:=(s.size:Int)≤1000000000000
def aa6 (s:ByteArray):AV:=.int (qR s)
def adv (s:ByteArray):List AV:=[]
def AM:Con where
 A:=[.s .str]
 B:=[]
 pre:=fun x b=>jQ x
 α:=fun _ _=>Unit
 φ:=fun _ _ _=>True
 r:=fun x b _=>aa6 x
 o:=fun x b _=>adv x
 nf:=0
set_option maxRecDepth 100000 in
theorem aac:Has Tryz.prog 87 AM:=by
 refine Has.ofE (fun _=>true) (fun _=>false) (fun _=>false) (l:=[]) trivial (fn:=Tryz.f87) Tryz.func87 rfl (by decide) (aZ rfl) ?_
 rintro (s:ByteArray) _ (hp:jQ s)
 show vc _ _ _ _ (entry [.str s] []) _
 unfold jQ at hp
 refine cO (l:=[]) (ex:=fun _=>true) (wr:=fun _=>false) (pt:=fun _=>false) aa [.s 0] (fun k:Nat=>[(.s 3,.int (r7 s k).1),(.s 4,.int (r7 s k).2),(.s 5,.int k)]) (fun k=>k≤s.size) (fun k=>s.size-k) 0 [] (ZA8 _) ⟨⟨rfl,rfl,rfl,aa⟩,rfl,aa⟩ ?_
 intro k hk
 obtain⟨b1,b2,b3,b4⟩:=zr s k
 have hb:=xn s k
 refine⟨fun w1=>⟨⟨?_,?_⟩,⟨⟨?_,?_⟩,⟨⟨?_,?_⟩,⟨⟨?_,?_⟩,⟨⟨?_,?_⟩,⟨⟨?_,?_⟩,⟨⟨?_,?_⟩,⟨⟨?_,?_⟩,?_⟩⟩⟩⟩⟩⟩⟩⟩,fun w2=>⟨⟨?_,?_⟩,⟨⟨?_,?_⟩,?_⟩⟩⟩
 all_goals first|refine aw ?_|refine ax ?_|exact ba|exact a8|skip
 ·refine⟨(k+1),[],?_,?_,?_⟩
  rotate_right
  ·repeat' (first|exact trivial|rfl|exact rfl|exact fP ZA0.symm|exact oU|apply And.intro)
  all_goals first|refine aw ?_|refine ax ?_|exact ba|exact a8|skip
 ·have h2:¬(k:Int)<(s.size:Int):=aA w2
  have hk':k=s.size:=by omega
  subst hk'
  refine⟨[],[],_,_,_,rfl,az,(),aa,?_,?_,rfl⟩
  ·rfl
  ·rfl
def iY (p:Pt) (s:ByteArray):Bool:=a6 p&&(!(au p)&&(decide (p.2.2.1=s.size)&&decide (p.2.2.2.1=qR s)))
def nW (p:Pt) (s:ByteArray):Prop:=(s.size:Int)≤1000000000000
def RH (p:Pt) (s:ByteArray):AV:=.q (iY p s)
def W3 (p:Pt) (s:ByteArray):List AV:=[]
def sS:Con where
 A:=[.a [.int,.int,.int,.int,.int],.s .str]
 B:=[]
 pre:=fun x b=>nW (x.1) (x.2)
 α:=fun _ _=>Unit
 φ:=fun _ _ _=>True
 r:=fun x b _=>RH (x.1) (x.2)
 o:=fun x b _=>W3 (x.1) (x.2)
 nf:=0
set_option maxRecDepth 100000 in
theorem MU:Has Tryz.prog 57 sS:=by
 refine Has.ofE (fun _=>true) (fun _=>false) (fun _=>false) (l:=[(25,cY),(26,bm),(87,AM)]) ⟨iB,cB,aac,trivial⟩ (fn:=Tryz.f57) Tryz.func57 rfl (by decide) (aZ rfl) ?_
 rintro⟨⟨(p1:Int),(p2:Int),(p3:Int),(p4:Int),(p5:Int)⟩,(s:ByteArray)⟩ _ (hp:nW (p1,p2,p3,p4,p5) s)
 show vc _ _ _ _ (entry [.a [.int p1,.int p2,.int p3,.int p4,.int p5],.str s] []) _
 unfold nW at hp
 refine⟨[.s 2,.b 1002],[.s 5],rfl,[.s 5],[.s 6],rfl,⟨⟨⟨aa,aa,aa,aa,aa,aa⟩,aa⟩,aa⟩,?_,fun x1 w2=>⟨[.s 6],[.s 7],rfl,aa,fun w3=>⟨[.s 7,.s 2,.b 1002],[.s 8],rfl,[.s 7,.s 8],[.s 9],rfl,⟨⟨⟨aa,aa,aa,aa,aa,aa⟩,aa⟩,aa⟩,?_,fun x4 w5=>⟨[.s 7,.s 9],[.s 10],rfl,[.s 7,.s 10],[.s 11],rfl,[.s 11],[.s 12],rfl,aa,fun w6=>⟨[.s 12,.s 2],[.s 13],rfl,[.s 12,.s 13,.b 1002],[.s 14],rfl,[.s 12,.s 1],[.s 15],rfl,[.s 12,.s 15],[.s 16],rfl,[.s 12,.s 14,.s 16],[.s 17],rfl,[.s 12,.s 17],[.s 18],rfl,[.s 18],[.s 19],rfl,aa,fun w7=>⟨[.s 19,.s 2],[.s 20],rfl,[.s 19,.s 20,.b 1002],[.s 21],rfl,[.s 19,.s 1],[.s 22],rfl,[.s 19,.s 22],[.s 23],rfl,⟨⟨aa,aa⟩,?_⟩,?_,fun x8 w9=>⟨[.s 19,.s 21,.s 23],[.s 24],rfl,[.s 19,.s 24],[.s 25],rfl,[.s 25],[.s 4],rfl,?_⟩⟩,fun dq=>⟨[.s 19],[.s 20],rfl,[.s 19],[.s 21],rfl,[.s 19],[.s 22],rfl,[.s 19],[.s 23],rfl,[.s 19],[.s 24],rfl,[.s 19,.s 24],[.s 25],rfl,[.s 25],[.s 4],rfl,?_⟩⟩,fun kk=>⟨[.s 12],[.s 13],rfl,[.s 12],[.s 14],rfl,[.s 12],[.s 15],rfl,[.s 12],[.s 16],rfl,[.s 12],[.s 17],rfl,[.s 12,.s 17],[.s 18],rfl,[.s 18],[.s 19],rfl,[.s 19],[.s 20],rfl,[.s 19],[.s 21],rfl,[.s 19],[.s 22],rfl,[.s 19],[.s 23],rfl,[.s 19],[.s 24],rfl,[.s 19,.s 24],[.s 25],rfl,[.s 25],[.s 4],rfl,?_⟩⟩⟩,fun dI=>⟨[.s 7],[.s 8],rfl,[.s 7],[.s 9],rfl,[.s 7],[.s 10],rfl,[.s 7,.s 10],[.s 11],rfl,[.s 11],[.s 12],rfl,[.s 12],[.s 13],rfl,[.s 12],[.s 14],rfl,[.s 12],[.s 15],rfl,[.s 12],[.s 16],rfl,[.s 12],[.s 17],rfl,[.s 12,.s 17],[.s 18],rfl,[.s 18],[.s 19],rfl,[.s 19],[.s 20],rfl,[.s 19],[.s 21],rfl,[.s 19],[.s 22],rfl,[.s 19],[.s 23],rfl,[.s 19],[.s 24],rfl,[.s 19,.s 24],[.s 25],rfl,[.s 25],[.s 4],rfl,?_⟩⟩⟩
 all_goals first|refine aw ?_|refine ax ?_|exact ba|(dsimp only [cY,ee];omega)|(dsimp only [bm,cj];omega)|(dsimp only [AM,jQ];omega)|exact a8|(show jQ _;unfold jQ;omega)|skip
 all_goals
  refine⟨[],[],_,_,_,rfl,az,(),aa,?_,?_,rfl⟩
  ·show AV.q _=AV.q _
   congr 1
   simp_all [iY]
  ·rfl
def bO:Pt:=(0,0,0,0,0)
def gx (at_ EV level:Int) (s:ByteArray):Pt×Bool:=
 bif iC s.size 1 128&&a6 (at_,EV,s.size,qR s,level) then ((at_,EV,s.size,qR s,level),true) else (bO,false)
def ptA (p:Pt):A0:=.a (EK.A5 ae p)
theorem B0 {a b l:Int}{s:ByteArray}(h1:iC s.size 1 128=true) (h2:a6 (a,b,s.size,qR s,l)=true):gx a b l s=((a,b,(s.size:Int),qR s,l),true):=by unfold gx;rw [h1,h2];rfl
theorem B2 {a b l:Int}{s:ByteArray}(h1:iC s.size 1 128=false):gx a b l s=(bO,false):=by unfold gx;rw [h1];rfl
theorem B1 {a b l:Int}{s:ByteArray}(h2:a6 (a,b,s.size,qR s,l)=false):gx a b l s=(bO,false):=by unfold gx;rw [h2,ZD8];rfl
theorem xv {b:Bool}(h:(!b)=true):b=false:=by simpa using h
theorem cI {b:Bool}(h:(!b)=false):b=true:=by simpa using h
def mS (a:Int) (b:Int) (l:Int) (s:ByteArray):Prop:=(s.size:Int)≤1000000000000
def aa8 (a:Int) (b:Int) (l:Int) (s:ByteArray):AV:=.t [ptA (gx a b l s).1,.s (.q (gx a b l s).2)]
def adx (a:Int) (b:Int) (l:Int) (s:ByteArray):List AV:=[]
def o9:Con where
 A:=[.s .int,.s .int,.s .int,.s .str]
 B:=[]
 pre:=fun x b=>mS (x.1) (x.2.1) (x.2.2.1) (x.2.2.2)
 α:=fun _ _=>Unit
 φ:=fun _ _ _=>True
 r:=fun x b _=>aa8 (x.1) (x.2.1) (x.2.2.1) (x.2.2.2)
 o:=fun x b _=>adx (x.1) (x.2.1) (x.2.2.1) (x.2.2.2)
 nf:=0
set_option maxRecDepth 100000 in
theorem FV:Has Tryz.prog 53 o9:=by
 refine Has.ofE (fun _=>true) (fun _=>false) (fun _=>false) (l:=[(86,DJ),(25,cY),(87,AM)]) ⟨ab2,iB,aac,trivial⟩ (fn:=Tryz.f53) Tryz.func53 rfl (by decide) (aZ rfl) ?_
 rintro⟨(a:Int),(b:Int),(l:Int),(s:ByteArray)⟩ _ (hp:mS a b l s)
 show vc _ _ _ _ (entry [.int a,.int b,.int l,.str s] []) _
 unfold mS at hp
 refine⟨⟨⟨aa,aa⟩,aa⟩,fun x1 w2=>⟨fun w3=>?_,fun w4=>⟨⟨⟨aa,aa⟩,?_⟩,fun x5 w6=>⟨⟨⟨⟨aa,aa,aa,aa,aa,aa⟩,aa⟩,aa⟩,fun x7 w8=>⟨fun w9=>?_,fun dq=>?_⟩⟩⟩⟩⟩
 all_goals first|refine aw ?_|refine ax ?_|exact ba|(dsimp only [DJ,vj];omega)|(dsimp only [cY,ee];omega)|(dsimp only [AM,jQ];omega)|exact a8|(show jQ _;unfold jQ;omega)|skip
 ·refine⟨[],[],_,_,_,rfl,az,(),aa,?_,?_,rfl⟩
  ·show _=AV.t [ptA (gx a b l s).1,.s (.q (gx a b l s).2)]
   rw [B2 (xv w3)];rfl
  ·rfl
 ·refine⟨[],[],_,_,_,rfl,az,(),aa,?_,?_,rfl⟩
  ·show _=AV.t [ptA (gx a b l s).1,.s (.q (gx a b l s).2)]
   rw [B1 (xv w9)];rfl
  ·rfl
 ·refine⟨[],[],_,_,_,rfl,az,(),aa,?_,?_,rfl⟩
  ·show _=AV.t [ptA (gx a b l s).1,.s (.q (gx a b l s).2)]
   rw [B0 (cI w4) (cI dq)];rfl
  ·rfl
def alK:Nat→Nat→ByteArray
 |0,_=>ByteArray.empty
 |n+1,k=>bif Nat.blt k 10 then fc [48+k] else alK n (k / 10)++fc [48+k % 10]
end GL
namespace GL
theorem sz0:(⟨#[]⟩:ByteArray).size=0:=rfl
theorem sz1 (a:UInt8):(⟨#[a]⟩:ByteArray).size=1:=rfl
def dec (k:Nat):ByteArray:=if k<10 then fc [48+(k:Int)] else dec (k / 10)++fc [48+((k % 10:Nat):Int)]
 termination_by k
 decreasing_by omega
def ca (n:Int):ByteArray:=dec n.toNat
theorem dec_lt {k:Nat}(h:k<10):dec k=fc [48+(k:Int)]:=by rw [dec,if_pos h]
theorem YI {k:Nat}(h:¬k<10):dec k=dec (k / 10)++fc [48+((k % 10:Nat):Int)]:=by rw [dec,if_neg h]
theorem s5 (n:Int):(fc [n]).size=1:=by rw [fc,nJ];rfl
theorem JW:∀(m k:Nat),k<10 ^ (m+1)→(dec k).size≤m+1
 |0,k,h=>by rw [dec_lt (by omega),s5];omega
 |m+1,k,h=>by
  by_cases hk:k<10
  ·rw [dec_lt hk,s5];omega
  ·rw [YI hk,ZB3,s5]
   have:=JW m (k / 10) (by rw [Nat.pow_succ] at h;omega)
   omega
theorem dc {n:Int}(h:n≤999999999999):(ca n).size≤12:=JW 11 n.toNat (by show _<1000000000000;omega)
theorem agC {n:Int}(h0:0≤n) (h:n<10):ca n=fc [48+n]:=by
 unfold ca
 rw [dec_lt (by omega),show ((n.toNat:Nat):Int)=n by omega]
theorem agD {n:Int}(h0:0≤n) (h:¬n<10):ca n=ca (n / 10)++fc [48+n % 10]:=by
 unfold ca
 rw [YI (by omega),show ((n.toNat % 10:Nat):Int)=n % 10 by omega,show n.toNat / 10=(n / 10).toNat by omega]
def mQ (n:Int):Prop:=0≤n∧n≤999999999999
def aa3 (n:Int):AV:=.str (ca n)
def ado (n:Int):List AV:=[]
def j6:Con where
 A:=[.s .int]
 B:=[]
 pre:=fun x b=>mQ x
 α:=fun _ _=>Unit
 φ:=fun _ _ _=>True
 r:=fun x b _=>aa3 x
 o:=fun x b _=>ado x
 nf:=0
def adR (n:Int):Nat:=n.toNat
set_option maxRecDepth 100000 in
theorem wZ:Has Tryz.prog 117 j6:=by
 refine Has.recE (C:=j6) (fun _=>true) (fun _=>false) (fun _=>false) (fun x b=>adR x) (l:=[]) trivial (fn:=Tryz.f117) Tryz.func117 rfl (by decide) (aZ rfl) ?_
 rintro (n:Int) _ (hp:mQ n) amr
 show vc _ _ _ _ (entry [.int n] []) _
 obtain⟨h1,h2⟩:=hp
 have hs:=dc (n:=n / 10) (by omega)
 refine⟨fun w1=>?_,fun w2=>⟨fun w3=>⟨⟨?_,?_⟩,⟨⟨aa,aa⟩,⟨?_,?_⟩,?_⟩,fun x4 w5=>⟨?_,?_⟩⟩,fun w6=>⟨fun w7=>⟨⟨?_,?_⟩,⟨?_,?_⟩,aa,⟨?_,?_⟩,?_⟩,fun w8=>⟨[.s 0],[.s 18],rfl,[.s 18],[.s 19],rfl,⟨?_,?_,?_⟩,[.s 19],[.s 20],rfl,⟨⟨aa,aa⟩,⟨?_,?_⟩,?_⟩,?_,fun x9 dq=>⟨[.s 0],[.s 21],rfl,[.s 21],[.s 22],rfl,⟨?_,?_⟩,[.s 22],[.s 23],rfl,⟨?_,?_⟩,[.s 23],[.s 24],rfl,⟨?_,?_⟩,[.s 24,.b 1025],[.s 25,.b 1025],rfl,aa,[.s 25,.b 1025],[.s 26],rfl,⟨?_,?_⟩,[.s 20,.s 26],[.s 27],rfl,?_,[.s 27],[.s 2],rfl,?_⟩⟩⟩⟩⟩
 all_goals first|(exfalso;simp only [decide_eq_true_eq,decide_eq_false_iff_not] at *;omega)|refine aw ?_|refine ax ?_|exact ba|exact a8|(simp only [dj,s5,imax];omega)|(show (n / 10).toNat<n.toNat;have:=aA w8;omega)|skip
 ·refine⟨[],[],_,_,_,rfl,az,(),aa,?_,?_,rfl⟩
  ·show _=AV.str (ca n)
   rw [agC h1 (aE w7)];rfl
  ·rfl
 ·refine⟨[],[],_,_,_,rfl,az,(),aa,?_,?_,rfl⟩
  ·show _=AV.str (ca n)
   rw [agD h1 (aA w8)];rfl
  ·rfl
def amC:ByteArray:=⟨#[46]⟩
def bd (p:Pt):ByteArray:=
 bif a6 p then (bif au p then ⟨#[45]⟩ else
  ca p.1++⟨#[46]⟩++ca p.2.1++⟨#[46]⟩++ca p.2.2.1++⟨#[46]⟩++ca p.2.2.2.1++⟨#[46]⟩++ca p.2.2.2.2) else ⟨#[]⟩
theorem pX {p:Pt}(h:a6 p=true):(0≤p.1∧p.1≤63)∧(0≤p.2.1∧p.2.1≤900)∧(0≤p.2.2.1∧p.2.2.1≤128)∧(0≤p.2.2.2.1∧p.2.2.2.1≤99460728)∧0≤p.2.2.2.2∧p.2.2.2.2≤2:=by
 unfold a6 au at h
 simp only [Bool.or_eq_true,ZB0,decide_eq_true_eq,cz] at h
 omega
theorem gw (p:Pt):(bd p).size≤64:=by
 unfold bd
 cases h:a6 p with
 |false=>exact ZA8 _
 |true=>
  obtain⟨h1,h2,h3,h4,h5⟩:=pX h
  cases au p with
  |true=>show (1:Nat)≤64;omega
  |false=>
   simp only [cond_true,cond_false,ZB3,sz1]
   have a1:=dc (n:=p.1) (by omega)
   have a2:=dc (n:=p.2.1) (by omega)
   have a3:=dc (n:=p.2.2.1) (by omega)
   have a4:=dc (n:=p.2.2.2.1) (by omega)
   have a5:=dc (n:=p.2.2.2.2) (by omega)
   omega
def qh (p:Pt):Prop:=True
def V2 (p:Pt):AV:=.str (bd p)
def abG (p:Pt):List AV:=[]
def qH:Con where
 A:=[.a [.int,.int,.int,.int,.int]]
 B:=[]
 pre:=fun x b=>qh x
 α:=fun _ _=>Unit
 φ:=fun _ _ _=>True
 r:=fun x b _=>V2 x
 o:=fun x b _=>abG x
 nf:=0
set_option maxRecDepth 100000 in
theorem IY:Has Tryz.prog 118 qH:=by
 refine Has.ofE (fun _=>true) (fun _=>false) (fun _=>false) (l:=[(25,cY),(26,bm),(117,j6)]) ⟨iB,cB,wZ,trivial⟩ (fn:=Tryz.f118) Tryz.func118 rfl (by decide) (aZ rfl) ?_
 rintro⟨(p1:Int),(p2:Int),(p3:Int),(p4:Int),(p5:Int)⟩ _ (hp:qh (p1,p2,p3,p4,p5))
 show vc _ _ _ _ (entry [.a [.int p1,.int p2,.int p3,.int p4,.int p5]] []) _
 by_cases cA:a6 (p1,p2,p3,p4,p5)=true
 ·obtain⟨⟨b1,b2⟩,⟨b3,b4⟩,⟨b5,b6⟩,⟨b7,b8⟩,b9,b10⟩:=pX cA
  dsimp only at b1 b2 b3 b4 b5 b6 b7 b8 b9 b10
  have a1:=dc (n:=p1) (by omega)
  have a2:=dc (n:=p2) (by omega)
  have a3:=dc (n:=p3) (by omega)
  have a4:=dc (n:=p4) (by omega)
  have a5:=dc (n:=p5) (by omega)
  refine⟨⟨⟨⟨aa,aa,aa,aa,aa,aa⟩,aa⟩,aa⟩,fun x1 w2=>⟨fun w3=>?_,fun w4=>⟨⟨⟨⟨aa,aa,aa,aa,aa,aa⟩,aa⟩,aa⟩,fun x5 w6=>⟨fun w7=>?_,fun w8=>⟨[.s 1],[.s 8],rfl,[.s 8,.b 1001],[.s 9],rfl,[.s 9],[.s 10],rfl,⟨⟨aa,aa⟩,?_,?_⟩,?_,fun x9 dq=>⟨[.s 10],[.s 11],rfl,?_,[.s 1],[.s 12],rfl,[.s 12,.b 1001],[.s 13],rfl,[.s 13],[.s 14],rfl,⟨⟨aa,aa⟩,?_,?_⟩,?_,fun kE dI=>⟨[.s 11,.s 14],[.s 15],rfl,?_,[.s 15],[.s 16],rfl,?_,[.s 1],[.s 17],rfl,[.s 17,.b 1001],[.s 18],rfl,[.s 18],[.s 19],rfl,⟨⟨aa,aa⟩,?_,?_⟩,?_,fun r4 gI=>⟨[.s 16,.s 19],[.s 20],rfl,?_,[.s 20],[.s 21],rfl,?_,[.s 1],[.s 22],rfl,[.s 22,.b 1001],[.s 23],rfl,[.s 23],[.s 24],rfl,⟨⟨aa,aa⟩,?_,?_⟩,?_,fun kD kj=>⟨[.s 21,.s 24],[.s 25],rfl,?_,[.s 25],[.s 26],rfl,?_,[.s 1],[.s 27],rfl,[.s 27,.b 1001],[.s 28],rfl,[.s 28],[.s 29],rfl,⟨⟨aa,aa⟩,?_,?_⟩,?_,fun x17 qX=>⟨[.s 26,.s 29],[.s 30],rfl,?_,[.s 30],[.s 2],rfl,?_⟩⟩⟩⟩⟩⟩⟩⟩⟩⟩
  all_goals first|refine aw ?_|refine ax ?_|exact ba|(dsimp only [cY,ee];omega)|(dsimp only [bm,cj];omega)|(dsimp only [j6,mQ];omega)|exact a8|(simp only [ZB3,sz1,imax];omega)|skip
  ·rw [cA] at w3;cases w3
  ·refine⟨[],[],_,_,_,rfl,az,(),aa,?_,?_,rfl⟩
   ·show _=AV.str (bd (p1,p2,p3,p4,p5))
    unfold bd;rw [cA,w7];rfl
   ·rfl
  ·refine⟨[],[],_,_,_,rfl,az,(),aa,?_,?_,rfl⟩
   ·show _=AV.str (bd (p1,p2,p3,p4,p5))
    unfold bd;rw [cA,w8];rfl
   ·rfl
 ·have uD:a6 (p1,p2,p3,p4,p5)=false:=by simpa using cA
  refine⟨⟨⟨aa,aa,aa,aa,aa,aa⟩,aa⟩,aa⟩ |> fun h=>⟨h,fun x1 w2=>⟨fun w3=>?_,fun w4=>?_⟩⟩
  ·refine⟨[],[],_,_,_,rfl,az,(),aa,?_,?_,rfl⟩
   ·show _=AV.str (bd (p1,p2,p3,p4,p5))
    unfold bd;rw [uD];rfl
   ·rfl
  ·rw [uD] at w4;cases w4
end GL
end Go.Proofs.YtbfgjadbfjkcdaaGreatDoor
