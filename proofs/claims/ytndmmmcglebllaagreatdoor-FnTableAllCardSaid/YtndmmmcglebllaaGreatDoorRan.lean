/- Part 14 of the proof of FnTableAll. -/
import Derived.Carry
import Derived.LaidMore
import Derived.Lay
import Derived.Lib.LaidTab
import Derived.Lib.LaidU8
import Derived.OpenShut
import Derived.ProofKit
import Derived.SevenTiedAt
import Derived.Stop.Joined
import Derived.Stop.LaidErr
import Derived.Test.YtndmmmcglebllaaGreatDoorCards
import Derived.Test.YtndmmmcglebllaaGreatDoorRows
import Derived.Test.YtndmmmcglebllaaGreatDoorTie
import Derived.Test.YtndmmmcglebllaaGreatDoorRak
set_option maxHeartbeats 20000000
set_option maxRecDepth 100000
set_option linter.all false
namespace Go.Proofs.YtndmmmcglebllaaGreatDoor
open Go Go.ChangeShapes Go.WideShapes Go.ChangeAt Go.RowKit
theorem aon {n:Int}(h:(Lit.int .u8 n).wf=true):0<=n/\n<=255:=by
 have h1:(decide (IntKind.u8.min<=n)&&decide (n<=IntKind.u8.max))=true:=h
 rw [show IntKind.u8.min=0 from rfl,show IntKind.u8.max=255 from rfl] at h1
 simpa using h1
theorem own:ownKnob Tryz.prog.godebug=none:=by kernel_rfl
theorem laidOut:laidOutB Tryz.prog=true:=by kernel_rfl
theorem alR:Tryz.prog.cellsOf 5=1:=by kernel_rfl
theorem abl {W:World}{n:String}{g:Nat}{cs:Array Value}(hg:Tryz.prog.globalNamed n=some g) (h:W.var? Tryz.prog n=some cs):∃e fr,W.heap[g]?=some (.cells cs e fr):=by
 unfold World.var? at h
 rw [hg] at h
 simp only [Option.bind_some] at h
 split at h
 ·rename_i c e fr he
  cases h
  exact⟨e,fr,he⟩
 ·cases h
theorem agr {W:World}(hs:W.ShapedOpen Tryz.prog):∃n e fr,W.heap[0]?=some (.cells #[.int .i64 n] e fr):=by
 obtain⟨cs,hh,hz,hr⟩:=hs.1 0 #[.int .i64 0] 3 (aF (by kernel_rfl)) (by kernel_rfl)
 obtain⟨ts,hts,_,qw⟩:=hr (by kernel_rfl)
 obtain rfl:=ZF4 ((show Tryz.prog.cellTypes Tryz.prog.depth 3=some [3] by kernel_rfl).symm.trans hts)
 have h1:cs.size=1:=hz
 obtain⟨u,hu,cn⟩:=qw 0 cs[0] (by simp [h1])
 have:u=3:=by simpa using hu.symm
 subst this
 unfold Cell.ok at cn
 rw [Tryz.underlying3] at cn
 have lj:cs= #[cs[0]]:=by
  apply Array.ext
  ·simp [h1]
  ·intro i h2 h3
   have:i=0:=by omega
   subst this;rfl
 rw [lj] at hh
 cases hv:cs[0] with
 |int k n=>
  rw [hv] at cn hh
  cases k<;>first|exact⟨n,_,_,hh⟩|simp at cn
 |_=>rw [hv] at cn;simp at cn
theorem IY {W:World}{l:List (String×DataW Unit)}{n nm:String}{d:DataW Unit}{g:Nat}(h:laidMet Tryz.prog l W) (hm:(n,DataW.iface nm d)∈l) (hg:Tryz.prog.globalNamed n=some g) (ht:(Tryz.prog.globals[g]?).map (·.type)=some 170):∃t v,W.var? Tryz.prog n=some #[.iface t v]:=by
 obtain⟨g',t,cs,fuel,p,hg',ht',hv,hd⟩:=Lib.laidMet.reads h hm
 obtain rfl:=ZF4 (hg.symm.trans hg')
 obtain rfl:=ZF4 (ht.symm.trans ht')
 obtain⟨_,u,v,lj,_⟩:=iface_of_trod Tryz.underlying170 hd
 refine⟨u,v,hv.trans (congrArg some ?_)⟩
 exact Array.toList_inj.1 lj
theorem ajH {W:World}(hs:W.ShapedOpen Tryz.prog) (hl:laidMet Tryz.prog Rows.fnTableAllRow.laid W):∀g∈GL.uO,∃cs e fr,W.heap[g.1]?=some (.cells cs e fr)/\g.2 cs:=by
 have l2:=hl.tail.tail
 have l4:=hl.tail.tail.tail.tail
 have l5:=hl.tail.tail.tail.tail.tail
 have aqR:=Lib.tabIs_of_head (k:=.u64) (zs:=Lib.pow10Tab) (g:=3) (t:=237) (e:=212) (n:=20) (by kernel_rfl) (by kernel_rfl) (by kernel_rfl) (by kernel_rfl) (by kernel_rfl) (by kernel_rfl) l2
 obtain⟨t1,v1,h1⟩:=IY (g:=2) l4 (.head _) (by kernel_rfl) (by kernel_rfl)
 obtain⟨t2,v2,h2⟩:=IY (g:=1) l5 (.head _) (by kernel_rfl) (by kernel_rfl)
 intro g hg
 unfold GL.uO at hg
 simp only [ZB7,ZF6,or_false] at hg
 rcases hg with rfl |rfl |rfl |rfl
 ·obtain⟨n,e,fr,h⟩:=agr hs
  exact⟨_,e,fr,h,n,rfl⟩
 ·obtain⟨e,fr,h⟩:=abl (g:=1) (by kernel_rfl) h2
  exact⟨_,e,fr,h,t2,v2,rfl⟩
 ·obtain⟨e,fr,h⟩:=abl (g:=2) (by kernel_rfl) h1
  exact⟨_,e,fr,h,t1,v1,rfl⟩
 ·obtain⟨e,fr,h⟩:=abl (g:=3) (by kernel_rfl) aqR
  exact⟨_,e,fr,h,rfl⟩
end Go.Proofs.YtndmmmcglebllaaGreatDoor
namespace Go.Proofs.YtndmmmcglebllaaGreatDoor
open Go Go.ChangeShapes Go.WideShapes Go.ChangeAt Go.RowKit
def XA:Prop:=∀(W:World) (l:List Int) (v:Value),GL.Bys W l v->(∀b∈l,0<=b/\b<=255)->(∀g∈GL.uO,∃cs e fr,W.heap[g.1]?=some (.cells cs e fr)/\g.2 cs)->
 Calls Tryz.prog 3 #[v] W λe w'=>e= .returned (.bool true)/\Below W.heap.size W w'
theorem anV {W:World}{b o len cap:Nat}{zs:List Int}(oC:0<len) (hc:len<=cap) (hlen:zs.length=cap) (iz:∀j,j<zs.length->W.cell? ⟨b,o+j,none⟩=some (.int .u8 (zs.getD j 0))):GL.Bys W (zs.take len) (.slice (some ⟨b,o,none⟩) len cap):=by
 have h0:=iz 0 (by omega)
 unfold World.cell? at h0
 split at h0
 ·rename_i cs e fr hh
  have hl:(zs.take len).length=len:=by rw [ZB6];omega
  have key:GL.win cs o (GL.flat GL.nJ (zs.take len)):=λj v hj=>by
   rw [GL.WJ,ZG7] at hj
   cases hz:(zs.take len)[j]? with
   |none=>rw [hz] at hj;cases hj
   |some z=>
    rw [hz] at hj
    cases hj
    have bR:j<len:=by have:=(ZB9.1 hz).1;omega
    have hz':zs[j]?=some z:=by rw [<-hz,ZH7 bR]
    have h1:=iz j (by omega)
    unfold World.cell? at h1
    rw [hh] at h1
    rw [show zs.getD j 0=z by simp [List.getD,hz']] at h1
    exact h1
  have h2:=GL.Bys.some (W:=W) (l:=zs.take len) b o cap cs e fr hh (by rw [hl];exact hc) key
  rw [hl] at h2
  exact h2
 ·cases h0
theorem lifted (hwalk:XA) (os:Os) (started:os.Started) (H:Type) (enc:TypeId×Value->H):
  ReturnsInHanded {} Tryz.checked os 3 .any (λw args=>(Rows.fnTableAllSpec.pre enc Tryz.prog Tryz.f3 Rows.fnTableAllRow.domain false w args/\laidMetH Tryz.prog Rows.fnTableAllRow.laid w)/\sizedMet enc Tryz.prog Tryz.f3 (OpenSpec.ofChange Rows.fnTableAllSpec) false w args)
   (Rows.fnTableAllSpec.post enc Tryz.prog Tryz.f3 false true false false):=by
 refine returnsInHanded_of_calls own started (by kernel_rfl)
  (ChangeSpec.witness_shaped (enc:=enc) (C:=Tryz.checked) (os:=os) (X:=λw _=>laidMetH Tryz.prog Rows.fnTableAllRow.laid w) false (World.laidAll Tryz.prog os Rows.fnTableAllRow.laid) #[.slice none 0 0] 8 (World.laidAll_os _ _ _)
   (World.shaped_of_ZipB (by kernel_rfl) (by kernel_rfl)) (by kernel_rfl) (by kernel_rfl) (by kernel_rfl)
   (by rw [MakeChecks.laidMetH_plain _ _ _ (by kernel_rfl)];exact laidMet_laidAll _ (by kernel_rfl) (by kernel_rfl))) ?_
 intro w tape i _ hsh _ cn aaC _
 obtain⟨_,_,_,fn',arc,_,_,_,_,aeF⟩:=cn
 obtain rfl:fn'=Tryz.f3:=ZF4 (arc.symm.trans Tryz.func3)
 obtain⟨⟨⟨ds,gs,before,hw,hc⟩,hx⟩,hz⟩:=aaC
 have hW:=DataW.Whole.of_heap (w':=w.forCall tape i) (by rfl) hw
 have hL:laidMet Tryz.prog Rows.fnTableAllRow.laid (w.forCall tape i):=by
  rw [MakeChecks.laidMetH_plain _ _ _ (by kernel_rfl)] at hx
  exact laidMet.of_heap (w':=w.forCall tape i) (by rfl) hx
 have amz:=ajH hsh hL
 generalize hWe:w.forCall tape i=W at hW aeF amz ⊢
 generalize hbe:w.heap.size=base at aeF
 generalize hae:i.args=args at hW aeF ⊢
 have key:Calls Tryz.prog 3 args W λe W'=>∃v,e= .returned v/\Rows.fnTableAllSpec.post enc Tryz.prog Tryz.f3 false true false false W args v W':=by
  have acZ:∀(j:Nat) t v,Tryz.f3.params[j]?=some t->args[j]?=some v->Value.okWide Tryz.prog W .any base t v:=aeF
  have hW':=hW
  obtain⟨p,q,hA0,hV,rfl,_,_⟩:=hW
  have hA:DataW.TrodAll enc Tryz.prog W 0 (λ_=>true) true Tryz.f3.params.toList args.toList ds p:=hA0
  rw [Tryz.params3] at hA acZ
  obtain⟨v0,d0,rfl,rfl,h0⟩:=trodAll_one hA
  obtain⟨rfl,rfl⟩:=trodVars_none hV
  have h0k:=h0
  obtain⟨fuel,hf⟩:=h0
  clear hA0
  simp only [ZD4] at hW'
  have bR:∀x∈p,x.block<W.heap.size:=λx hx=>by simpa using hW'.lt x hx
  obtain⟨a0,len,cap,rfl⟩:=okWide_slice Tryz.underlying22 (acZ 0 22 v0 rfl rfl)
  have anK:∃zs,GL.Bys W zs (.slice a0 len cap)/\∀b∈zs,0<=b/\b<=255:=by
   rcases open_ints Tryz.underlying22 Tryz.underlying5 alR hf with ⟨lj,_⟩ |⟨a,ar6,z6,zs,lj,_,hl,hm,hz,_,iz,hwz⟩
   ·simp [Value.cells] at lj
    obtain⟨rfl,rfl,rfl⟩:=lj
    exact⟨[],.none none 0 rfl,λb hb=>by cases hb⟩
   ·simp [Value.cells] at lj
    obtain⟨rfl,rfl,rfl⟩:=lj
    by_cases h:len=0
    ·subst h
     exact⟨[],.none _ _ rfl,λb hb=>by cases hb⟩
    ·simp only [if_true] at hz
     have oC:0<zs.length:=by omega
     obtain⟨b,off,spot⟩:=a
     have aoV:spot=none:=by simpa [Addr.add] using World.cell?_spot (iz 0 oC)
     subst aoV
     exact⟨zs.take len,anV (by omega) hl hz (λj hj=>by have h1:=iz j hj;simp only [Addr.add] at h1;by_cases e:j=0;(subst e;rw [if_pos rfl] at h1;exact h1);(rw [if_neg e] at h1;exact h1)),λx hx=>aon (hwz x (ZE5 hx))⟩
  obtain⟨zs,hb1,hb2⟩:=anK
  refine (hwalk W zs _ hb1 hb2 amz).mono λe W' ⟨he,agO⟩=>?_
  subst he
  refine⟨_,ζ,?_⟩
  exact⟨_,_,_,[],_,[],hW',trodAll_mk1 (shut_bool Tryz.underlying4 _),trodAll_mk1 (Below.trod laidOut (by kernel_rfl) (aF (by kernel_rfl)) h0k agO bR),rfl,agO.frame _,λh=>by cases h⟩
 refine key.mono λe W' ⟨v,he,hp⟩=>?_
 subst he
 exact ChangeSpec.post_blind hp
