/- Part 49 of A drawn law. -/
import Derived.Carry
import Derived.LaidMore
import Derived.Lay
import Derived.Lib.LaidTab
import Derived.Lib.LaidU8
import Derived.OpenShut
import Derived.ProofKit
import Derived.SevenTiedAt
import Derived.Stop.Joined
import Derived.Stop.LaidErr
import Derived.Test.YtkgpljpmdkflmaaGreatDoorCards
import Derived.Test.YtkgpljpmdkflmaaGreatDoorRows
import Derived.Test.YtkgpljpmdkflmaaGreatDoorTie
import Derived.Test.YtkgpljpmdkflmaaGreatDoorPbt
set_option maxHeartbeats 20000000
set_option maxRecDepth 100000
set_option linter.all false
namespace Go.Proofs.YtkgpljpmdkflmaaGreatDoor
open Go Go.ChangeShapes Go.WideShapes Go.ChangeAt Go.RowKit
theorem ann {n:Int}(h:(Lit.int .u8 n).wf=true):0≤n∧n≤255:=by
 have h1:(decide (IntKind.u8.min≤n)&&decide (n≤IntKind.u8.max))=true:=h
 rw [show IntKind.u8.min=0 from rfl,show IntKind.u8.max=255 from rfl] at h1
 simpa using h1
theorem own:ownKnob Tryz.prog.godebug=none:=by kernel_rfl
theorem laidOut:laidOutB Tryz.prog=true:=by kernel_rfl
theorem ani:Tryz.prog.cellsOf 5=1:=by kernel_rfl
theorem am2 {W:World}{n:String}{g:Nat}{cs:Array Value}(hg:Tryz.prog.globalNamed n=some g) (h:W.var? Tryz.prog n=some cs):∃e fr,W.heap[g]?=some (.cells cs e fr):=by
 unfold World.var? at h
 rw [hg] at h
 simp only [Option.bind_some] at h
 split at h
 ·rename_i c e fr he
  cases h
  exact⟨e,fr,he⟩
 ·cases h
theorem ane {W:World}(hs:W.ShapedOpen Tryz.prog):∃n e fr,W.heap[2]?=some (.cells #[.int .i64 n] e fr):=by
 obtain⟨cs,hh,hz,hr⟩:=hs.1 2 #[.int .i64 0] 3 (aJ (by kernel_rfl)) (by kernel_rfl)
 obtain⟨ts,hts,_,uK⟩:=hr (by kernel_rfl)
 obtain rfl:=ZG5 ((show Tryz.prog.cellTypes Tryz.prog.depth 3=some [3] by kernel_rfl).symm.trans hts)
 have h1:cs.size=1:=hz
 obtain⟨u,hu,cH⟩:=uK 0 cs[0] (by simp [h1])
 have:u=3:=by simpa using hu.symm
 subst this
 unfold Cell.ok at cH
 rw [Tryz.underlying3] at cH
 have mw:cs= #[cs[0]]:=by
  apply Array.ext
  ·simp [h1]
  ·intro i h2 h3
   have:i=0:=by omega
   subst this;rfl
 rw [mw] at hh
 cases hv:cs[0] with
 |int k n=>
  rw [hv] at cH hh
  cases k<;>first|exact⟨n,_,_,hh⟩|simp at cH
 |_=>rw [hv] at cH;simp at cH
theorem amN {W:World}{l:List (String×DataW Unit)}{n nm:String}{d:DataW Unit}{g:Nat}(h:laidMet Tryz.prog l W) (hm:(n,DataW.iface nm d)∈l) (hg:Tryz.prog.globalNamed n=some g) (ht:(Tryz.prog.globals[g]?).map (·.type)=some 91):∃t v,W.var? Tryz.prog n=some #[.iface t v]:=by
 obtain⟨g',t,cs,fuel,p,hg',ht',hv,hd⟩:=Lib.laidMet.reads h hm
 obtain rfl:=ZG5 (hg.symm.trans hg')
 obtain rfl:=ZG5 (ht.symm.trans ht')
 obtain⟨_,u,v,mw,_⟩:=iface_of_trod Tryz.underlying91 hd
 refine⟨u,v,hv.trans (congrArg some ?_)⟩
 exact Array.toList_inj.1 mw
theorem ang {W:World}(hs:W.ShapedOpen Tryz.prog) (hl:laidMet Tryz.prog Rows.fnBlobShareRow.laid W):∀g∈GL.zV,∃cs e fr,W.heap[g.1]?=some (.cells cs e fr)∧g.2 cs:=by
 have l2:=hl.tail.tail
 have amh:=hl.tail.tail.tail.tail
 have ami:=hl.tail.tail.tail.tail.tail
 have anq:=Lib.tabIs_of_head (k:=.u64) (zs:=Lib.pow10Tab) (g:=5) (t:=281) (e:=235) (n:=20) (by kernel_rfl) (by kernel_rfl) (by kernel_rfl) (by kernel_rfl) (by kernel_rfl) (by kernel_rfl) l2
 obtain⟨t1,v1,h1⟩:=amN (g:=4) amh (.head _) (by kernel_rfl) (by kernel_rfl)
 obtain⟨t2,v2,h2⟩:=amN (g:=3) ami (.head _) (by kernel_rfl) (by kernel_rfl)
 intro g hg
 unfold GL.zV at hg
 simp only [ZB8,ZF6,or_false] at hg
 rcases hg with rfl |rfl |rfl |rfl
 ·obtain⟨n,e,fr,h⟩:=ane hs
  exact⟨_,e,fr,h,n,rfl⟩
 ·obtain⟨e,fr,h⟩:=am2 (g:=3) (by kernel_rfl) h2
  exact⟨_,e,fr,h,t2,v2,rfl⟩
 ·obtain⟨e,fr,h⟩:=am2 (g:=4) (by kernel_rfl) h1
  exact⟨_,e,fr,h,t1,v1,rfl⟩
 ·obtain⟨e,fr,h⟩:=am2 (g:=5) (by kernel_rfl) anq
  exact⟨_,e,fr,h,rfl⟩
end Go.Proofs.YtkgpljpmdkflmaaGreatDoor
namespace Go.Proofs.YtkgpljpmdkflmaaGreatDoor
open Go Go.ChangeShapes Go.WideShapes Go.ChangeAt Go.RowKit
def amX:Prop:=∀(W:World) (l:List Int) (v:Value),GL.Bys W l v→(∀b∈l,0≤b∧b≤255)→(∀g∈GL.zV,∃cs e fr,W.heap[g.1]?=some (.cells cs e fr)∧g.2 cs)→
 Calls Tryz.prog 7 #[v] W fun e w'=>e= .returned (.bool true)∧Below W.heap.size W w'
theorem anm {W:World}{b o len cap:Nat}{zs:List Int}(oW:0<len) (hc:len≤cap) (hlen:zs.length=cap) (agO:∀j,j<zs.length→W.cell? ⟨b,o+j,none⟩=some (.int .u8 (zs.getD j 0))):GL.Bys W (zs.take len) (.slice (some ⟨b,o,none⟩) len cap):=by
 have h0:=agO 0 (by omega)
 unfold World.cell? at h0
 split at h0
 ·rename_i cs e fr hh
  have hl:(zs.take len).length=len:=by rw [ZC0];omega
  have key:GL.win cs o (GL.flat GL.mj (zs.take len)):=fun j v hj=>by
   rw [GL.ZZ,List.getElem?_map] at hj
   cases hz:(zs.take len)[j]? with
   |none=>rw [hz] at hj;cases hj
   |some z=>
    rw [hz] at hj
    cases hj
    have bV:j<len:=by have:=(ZB9.1 hz).1;omega
    have hz':zs[j]?=some z:=by rw [←hz,List.getElem?_take_of_lt bV]
    have h1:=agO j (by omega)
    unfold World.cell? at h1
    rw [hh] at h1
    rw [show zs.getD j 0=z by simp [List.getD,hz']] at h1
    exact h1
  have h2:=GL.Bys.some (W:=W) (l:=zs.take len) b o cap cs e fr hh (by rw [hl];exact hc) key
  rw [hl] at h2
  exact h2
 ·cases h0
theorem lifted (hwalk:amX) (os:Os) (started:os.Started) (H:Type) (enc:TypeId×Value→H):
  ReturnsInHanded {} Tryz.checked os 7 .any (fun w args=>(Rows.fnBlobShareSpec.pre enc Tryz.prog Tryz.f7 Rows.fnBlobShareRow.domain false w args∧laidMetH Tryz.prog Rows.fnBlobShareRow.laid w)∧sizedMet enc Tryz.prog Tryz.f7 (OpenSpec.ofChange Rows.fnBlobShareSpec) false w args)
   (Rows.fnBlobShareSpec.post enc Tryz.prog Tryz.f7 false true false false):=by
 refine returnsInHanded_of_calls own started (by kernel_rfl)
  (ChangeSpec.witness_shaped (enc:=enc) (C:=Tryz.checked) (os:=os) (X:=fun w _=>laidMetH Tryz.prog Rows.fnBlobShareRow.laid w) false (World.laidAll Tryz.prog os Rows.fnBlobShareRow.laid) #[.slice none 0 0] 8 (World.laidAll_os _ _ _)
   (World.shaped_of_ZipB (by kernel_rfl) (by kernel_rfl)) (by kernel_rfl) (by kernel_rfl) (by kernel_rfl)
   (by rw [MakeChecks.laidMetH_plain _ _ _ (by kernel_rfl)];exact laidMet_laidAll _ (by kernel_rfl) (by kernel_rfl))) ?_
 intro w tape i _ hsh _ cH ahF _
 obtain⟨_,_,_,fn',anr,_,_,_,_,am7⟩:=cH
 obtain rfl:fn'=Tryz.f7:=ZG5 (anr.symm.trans Tryz.func7)
 obtain⟨⟨⟨ds,gs,before,hw,hc⟩,hx⟩,hz⟩:=ahF
 have hW:=DataW.Whole.of_heap (w':=w.forCall tape i) (by rfl) hw
 have hL:laidMet Tryz.prog Rows.fnBlobShareRow.laid (w.forCall tape i):=by
  rw [MakeChecks.laidMetH_plain _ _ _ (by kernel_rfl)] at hx
  exact laidMet.of_heap (w':=w.forCall tape i) (by rfl) hx
 have ank:=ang hsh hL
 generalize hWe:w.forCall tape i=W at hW am7 ank ⊢
 generalize hbe:w.heap.size=base at am7
 generalize hae:i.args=args at hW am7 ⊢
 have key:Calls Tryz.prog 7 args W fun e W'=>∃v,e= .returned v∧Rows.fnBlobShareSpec.post enc Tryz.prog Tryz.f7 false true false false W args v W':=by
  have afV:∀(j:Nat) t v,Tryz.f7.params[j]?=some t→args[j]?=some v→Value.okWide Tryz.prog W .any base t v:=am7
  have hW':=hW
  obtain⟨p,q,hA0,hV,rfl,_,_⟩:=hW
  have hA:DataW.TrodAll enc Tryz.prog W 0 (fun _=>true) true Tryz.f7.params.toList args.toList ds p:=hA0
  rw [Tryz.params7] at hA afV
  obtain⟨v0,d0,rfl,rfl,h0⟩:=trodAll_one hA
  obtain⟨rfl,rfl⟩:=trodVars_none hV
  have h0k:=h0
  obtain⟨fuel,hf⟩:=h0
  clear hA0
  simp only [ZE5] at hW'
  have bV:∀x∈p,x.block<W.heap.size:=fun x hx=>by simpa using hW'.lt x hx
  obtain⟨a0,len,cap,rfl⟩:=okWide_slice Tryz.underlying22 (afV 0 22 v0 rfl rfl)
  have anl:∃zs,GL.Bys W zs (.slice a0 len cap)∧∀b∈zs,0≤b∧b≤255:=by
   rcases open_ints Tryz.underlying22 Tryz.underlying5 ani hf with ⟨mw,_⟩ |⟨a,ans,yX,zs,mw,_,hl,hm,hz,_,agO,hwz⟩
   ·simp [Value.cells] at mw
    obtain⟨rfl,rfl,rfl⟩:=mw
    exact⟨[],.none none 0 rfl,fun b hb=>by cases hb⟩
   ·simp [Value.cells] at mw
    obtain⟨rfl,rfl,rfl⟩:=mw
    by_cases h:len=0
    ·subst h
     exact⟨[],.none _ _ rfl,fun b hb=>by cases hb⟩
    ·simp only [if_true] at hz
     have oW:0<zs.length:=by omega
     obtain⟨b,off,spot⟩:=a
     have ano:spot=none:=by simpa [Addr.add] using World.cell?_spot (agO 0 oW)
     subst ano
     exact⟨zs.take len,anm (by omega) hl hz (fun j hj=>by have h1:=agO j hj;simp only [Addr.add] at h1;by_cases e:j=0;(subst e;rw [if_pos rfl] at h1;exact h1);(rw [if_neg e] at h1;exact h1)),fun x hx=>ann (hwz x (ZE6 hx))⟩
  obtain⟨zs,hb1,hb2⟩:=anl
  refine (hwalk W zs _ hb1 hb2 ank).mono fun e W' ⟨he,alc⟩=>?_
  subst he
  refine⟨_,rfl,?_⟩
  exact⟨_,_,_,[],_,[],hW',trodAll_mk1 (shut_bool Tryz.underlying4 _),trodAll_mk1 (Below.trod laidOut (by kernel_rfl) (aJ (by kernel_rfl)) h0k alc bV),rfl,alc.frame _,fun h=>by cases h⟩
 refine key.mono fun e W' ⟨v,he,hp⟩=>?_
 subst he
 exact ChangeSpec.post_blind hp
end Go.Proofs.YtkgpljpmdkflmaaGreatDoor
