/- Part 29 of the proof of a drawn law. -/
import Derived.BigCall
import Derived.Deep.OwnRows
import Derived.Lib.BufferWrite
import Derived.Lib.OthersKept
import Derived.Lib.UnsafeStr
import Derived.RegionTactic
import Derived.Shelf.Strings.BuilderF
import Derived.Shelf.Strings.BuilderK
import Derived.WalkKit
import Derived.Test.YtnkbdhldiinfdaaGreatDoorPaw
import Derived.Test.YtnkbdhldiinfdaaGreatDoorPax
import Derived.Test.YtnkbdhldiinfdaaGreatDoorPbb
set_option maxHeartbeats 20000000
set_option maxRecDepth 100000
set_option linter.all false
namespace Go.Proofs.YtnkbdhldiinfdaaGreatDoor
namespace GL
open Go.RowKit
abbrev am3 (n:fu):Array Value:= #[.int .i64 n.1,.int .i64 n.2.1,.int .i64 n.2.2.1,.int .i64 n.2.2.2.1,.int .i64 n.2.2.2.2.1,.int .i64 n.2.2.2.2.2.1,.int .i64 n.2.2.2.2.2.2.1,.int .i64 n.2.2.2.2.2.2.2.1,.int .i64 n.2.2.2.2.2.2.2.2.1,.int .i64 n.2.2.2.2.2.2.2.2.2]
abbrev ndV (n:fu):Value:=.agg (am3 n)
def aqL (w:World) (v:Value):Option fu→Prop
 |none=>v= .pointer none
 |some n=>∃b,v= .pointer (some ⟨b,0,none⟩)∧w.heap[b]?=some (.cells (am3 n) 49 (0,0))
theorem aqL.kept {w w':World}{v:Value}{x:Option fu}(h:aqL w v x) (hk:∀(b:Nat) (cs:Array Value),w.heap[b]?=some (Obj.cells cs 49 (0,0))→w'.heap[b]?=w.heap[b]?):aqL w' v x:=by
 cases x with
 |none=>exact h
 |some n=>
  obtain⟨b,h1,h2⟩:=h
  exact⟨b,h1,(hk b _ h2).trans h2⟩
def aoR (w:World) (B n k:Nat) (X:Nat→Option fu):Prop:=
 ∃f:Nat→Value,w.rowIs B 74 n f∧(∀j,k≤j→f j= .pointer none)∧∀j,j<k→aqL w (f j) (X j)
theorem anG {w:World}{b:Nat}{o:Obj}(h:w.heap[b]?=some o):b<w.heap.size:=(ZF1.1 h).1
theorem aoR.grow {w w':World}{B n k:Nat}{X:Nat→Option fu}(h:aoR w B n k X) (hb:Below w.heap.size w w'):aoR w' B n k X:=by
 obtain⟨f,⟨c,h1,h2,h3⟩,h4,h5⟩:=h
 exact⟨f,⟨c,(hb.block _ (anG h1)).trans h1,h2,h3⟩,h4,λj hj=>(h5 j hj).kept λb cs hc=>hb.block _ (anG hc)⟩
theorem aoR.skip {w:World}{B n k:Nat}{X:Nat→Option fu}(h:aoR w B n k X) (hx:X k=none):aoR w B n (k+1) X:=by
 obtain⟨f,h1,h4,h5⟩:=h
 refine⟨f,h1,λj hj=>h4 j (by omega),λj hj=>?_⟩
 rcases Nat.lt_or_ge j k with hjk |hjk
 ·exact h5 j hjk
 ·have:j=k:=by omega
  subst this
  rw [hx];exact h4 j (ZB5 _)
theorem aoR.set {w:World}{B n k b:Nat}{X:Nat→Option fu}{m:fu}(h:aoR w B n k X) (hk:k<n) (hx:X k=some m) (hb:w.heap[b]?=some (.cells (am3 m) 49 (0,0))):aoR (w.setCell ⟨B,k,none⟩ (.pointer (some ⟨b,0,none⟩))) B n (k+1) X:=by
 obtain⟨f,h1,h4,h5⟩:=h
 have fA:∀(b':Nat) (cs:Array Value),w.heap[b']?=some (Obj.cells cs 49 (0,0))→(w.setCell ⟨B,k,none⟩ (.pointer (some ⟨b,0,none⟩))).heap[b']?=w.heap[b']?:=λb' cs hc=>by
  have hbb:b'≠B:=by
   rintro rfl
   obtain⟨c,hc2,_⟩:=h1
   rw [hc2] at hc;cases hc
  exact Go.Deep.blk_setCell_other _ _ _ _ hbb
 refine⟨λj=>if j=k then .pointer (some ⟨b,0,none⟩) else f j,h1.set k _,λj hj=>?_,λj hj=>?_⟩
 ·dsimp only;rw [if_neg (by omega)];exact h4 j (by omega)
 ·dsimp only
  by_cases hjk:j=k
  ·subst hjk
   rw [if_pos rfl,hx]
   exact⟨b,rfl,(fA b _ hb).trans hb⟩
  ·rw [if_neg hjk]
   exact (h5 j (by omega)).kept fA
def aoz (H G V:Nat→Bool):Nat→Nat→Bool
 |0,_=>true
 |f+1,k=>bif H k then aoz H G V f (k+1) else bif !(G k) then false else bif !(V k) then false else aoz H G V f (k+1)
def anB (w:World) (v:Value) (n:Nat) (X:Nat→Option fu):Prop:=∃B,v= .slice (some ⟨B,0,none⟩) n n∧aoR w B n n X
theorem aqb (W:World) (rcv t0 t1 t2 t3 t4 t5 t6:Value) (ok:Bool) (L:List Pt) (H G V:Nat→Bool) (R:Nat→ByteArray) (N:Nat→fu) (hn:L.length≤16)
   (hLV:∀w,Below W.heap.size W w→Calls Tryz.prog 66 #[rcv,.agg #[t0,t1,t2,t3,t4,t5,t6]] w λe w'=>∃v,e= .returned (.tuple #[v,.bool ok])∧Below w.heap.size w w'∧(ok=true→aqx w' v L))
   (hPH:∀w k (h:k<L.length),Below W.heap.size W w→Calls Tryz.prog 56 #[.agg #[.int .i64 L[k].1,.int .i64 L[k].2.1,.int .i64 L[k].2.2.1,.int .i64 L[k].2.2.2.1,.int .i64 L[k].2.2.2.2]] w λe w'=>e= .returned (.bool (H k))∧Below w.heap.size w w')
   (hRD:∀w k (h:k<L.length),Below W.heap.size W w→Calls Tryz.prog 33 #[rcv,.agg #[.int .i64 L[k].1,.int .i64 L[k].2.1,.int .i64 L[k].2.2.1,.int .i64 L[k].2.2.2.1,.int .i64 L[k].2.2.2.2]] w λe w'=>(∃q,e= .returned (.tuple #[.string (R k),.bool q]))∧Below w.heap.size w w')
   (hNG:∀w k,k<L.length→Below W.heap.size W w→Calls Tryz.prog 119 #[.string (R k)] w λe w'=>e= .returned (.tuple #[ndV (N k),.bool (G k)])∧Below w.heap.size w w')
   (hLN:∀w k,k<L.length→Below W.heap.size W w→Calls Tryz.prog 66 #[rcv,.agg #[.int .i64 (N k).2.2.2.1,.int .i64 (N k).2.2.2.2.1,.int .i64 (N k).2.2.2.2.2.1,.int .i64 (N k).2.2.2.2.2.2.1,.int .i64 (N k).2.2.2.2.2.2.2.1,.int .i64 (N k).2.2.2.2.2.2.2.2.1,.int .i64 (N k).2.2.2.2.2.2.2.2.2]] w λe w'=>∃v,e= .returned (.tuple #[v,.bool (V k)])∧Below w.heap.size w w'):
  Calls Tryz.prog 78 #[rcv,.agg #[t0,t1,t2,t3,t4,t5,t6]] W λe w'=>∃v,e= .returned (.tuple #[v,.bool (bif ok then aoz H G V L.length 0 else false)])∧Below W.heap.size W w'∧((bif ok then aoz H G V L.length 0 else false)=true→anB w' v L.length λk=>bif H k then none else some (N k)):=by
 have hmk:=λn (h:n≤1000000)=>run_make_row' (P:=Tryz.prog) 70 74 (.pointer none) 8 (by kernel_rfl) (by kernel_rfl) rfl .i64 .i64 n (by omega) (by omega)
 have ars:=hmk L.length (by omega)
 have art:∀W:World,(Instr.makeSlice 70 (.int .i64 0) (.int .i64 0)).run Tryz.prog W= .ok (.slice (some ⟨W.heap.size,0,none⟩) 0 0) (W.alloc (.cells (madeCells #[.pointer none] 0) 74)):=hmk 0 (by omega)
 go_enter Tryz.func78,Tryz.ntmps78
 have b0:Below W.heap.size W (W.alloc (.cells #[t0,t1,t2,t3,t4,t5,t6] 33)):=(Below.refl _ W).alloc (ZB5 _) _
 go_wp2_with (go_at_call 66;refine (hLV _ ?_).mono ?_)
 ·exact b0
 rintro e w1 ⟨v,rfl,hB1,hv⟩
 have b1:Below W.heap.size W w1:=b0.trans (hB1.mono b0.size)
 cases ok with
 |false=>
  go_wp2
  go_ret2
  exact⟨_,rfl,b1,λh=>by cases h⟩
 |true=>
  rcases hv rfl with ⟨hL,p,cap,rfl⟩ |⟨amS,amT,cap,rfl,hvb,agU⟩
  ·subst hL
   go_wp2
   refine wp_loop_rounds 1 ?_
   rw [rounds_succ]
   go_wp2
   go_ret2
   exact⟨_,rfl,b1.alloc b1.size _,λ_=>⟨w1.heap.size,rfl,λ_=>.pointer none,World.rowIs_made _ _ _ _,λ_ _=>rfl,λj hj=>absurd hj (Nat.not_lt_zero _)⟩⟩
  ·clear art hmk
   go_wp2
   go_loopw [30] (λi wr=>∃k:Nat,k≤L.length∧i= .int .i64 k∧Below w1.heap.size w1 wr∧aoR wr w1.heap.size L.length k (λk=>bif H k then none else some (N k))∧aoz H G V (L.length-k) k=aoz H G V L.length 0) (λi _=>L.length-(intOf i).toNat)
   case atStart=>exact⟨0,ZA7 _,rfl,(Below.refl _ _).alloc (ZB5 _) _,⟨λ_=>.pointer none,World.rowIs_made _ _ _ _,λ_ _=>rfl,λj hj=>absurd hj (Nat.not_lt_zero _)⟩,rfl⟩
   case round=>
    obtain⟨k,hk,rfl,hnx,ob,hg⟩:=hrel
    clear ars
    by_cases bU:k<L.length
    ·obtain⟨c0,c1,c2,c3,c4⟩:=agU k bU
     have d0:=(hnx.cell (p:=⟨amS,amT+k*5,none⟩) hvb).trans c0
     have d1:=(hnx.cell (p:=⟨amS,amT+k*5+1,none⟩) hvb).trans c1
     have d2:=(hnx.cell (p:=⟨amS,amT+k*5+2,none⟩) hvb).trans c2
     have d3:=(hnx.cell (p:=⟨amS,amT+k*5+3,none⟩) hvb).trans c3
     have d4:=(hnx.cell (p:=⟨amS,amT+k*5+4,none⟩) hvb).trans c4
     clear c0 c1 c2 c3 c4 agU hLV
     have ams:Below W.heap.size W wr:=b1.trans (hnx.mono b1.size)
     rw [show L.length-k=(L.length-(k+1))+1 by omega,aoz] at hg
     have amr:Below wr.heap.size wr (wr.alloc (.cells #[.int .i64 L[k].1,.int .i64 L[k].2.1,.int .i64 L[k].2.2.1,.int .i64 L[k].2.2.2.1,.int .i64 L[k].2.2.2.2] 31)):=(Below.refl _ _).alloc (ZB5 _) _
     go_wp2_with (go_at_call 56;refine (hPH _ k bU (ams.trans (amr.mono ams.size))).mono ?_)
     rintro e w3 ⟨rfl,b3⟩
     have e3:Below wr.heap.size wr w3:=amr.trans (b3.mono amr.size)
     have hbx:w3.heap[wr.heap.size]?=some (Obj.cells #[.int .i64 L[k].1,.int .i64 L[k].2.1,.int .i64 L[k].2.2.1,.int .i64 L[k].2.2.2.1,.int .i64 L[k].2.2.2.2] 31 (0,0)):=(b3.block _ (by show _<(wr.heap.push _).size;rw [Array.size_push];omega)).trans (heap_alloc_new wr _)
     have f0:w3.cell? ⟨wr.heap.size,0,none⟩=some (.int .i64 L[k].1):=by rw [rr hbx];rfl
     have f1:w3.cell? ⟨wr.heap.size,1,none⟩=some (.int .i64 L[k].2.1):=by rw [rr hbx];rfl
     have f2:w3.cell? ⟨wr.heap.size,2,none⟩=some (.int .i64 L[k].2.2.1):=by rw [rr hbx];rfl
     have f3:w3.cell? ⟨wr.heap.size,3,none⟩=some (.int .i64 L[k].2.2.2.1):=by rw [rr hbx];rfl
     have f4:w3.cell? ⟨wr.heap.size,4,none⟩=some (.int .i64 L[k].2.2.2.2):=by rw [rr hbx];rfl
     cases hH:H k with
     |true=>
      rw [hH,cond_true] at hg
      go_wp2
      refine⟨⟨k+1,bU,ζ,hnx.trans (e3.mono hnx.size),(ob.grow e3).skip (by rw [hH];rfl),hg⟩,?_⟩
      show L.length-((k:Int)+1).toNat<L.length-((k:Int)).toNat
      omega
     |false=>
      rw [hH,cond_false] at hg
      go_wp2_with (go_at_call 33;refine (hRD _ k bU ?_).mono ?_)
      ·exact ams.trans (e3.mono ams.size)
      rintro e w4 ⟨⟨q,rfl⟩,b4⟩
      have e4:Below wr.heap.size wr w4:=e3.trans (b4.mono e3.size)
      go_wp2_with (go_at_call 119;refine (hNG _ k bU ?_).mono ?_)
      ·exact ams.trans (e4.mono ams.size)
      rintro e w5 ⟨rfl,b5⟩
      have e5:Below wr.heap.size wr w5:=e4.trans (b5.mono e4.size)
      cases hG:G k with
      |false=>
       rw [hG] at hg
       go_wp2
       go_ret2
       exact⟨_,by rw [←hg];rfl,(ams.trans (e5.mono ams.size)).alloc (ZB0 ams.size e5.size) _,λh=>by rw [←hg] at h;cases h⟩
      |true=>
       rw [hG] at hg
       have e5':Below wr.heap.size wr (w5.alloc (.cells (am3 (N k)) 49)):=e5.alloc e5.size _
       go_wp2_with (go_at_call 66;refine (hLN _ k bU ?_).mono ?_)
       ·exact ams.trans (e5'.mono ams.size)
       rintro e w6 ⟨y,rfl,b6⟩
       have e6:Below wr.heap.size wr w6:=e5'.trans (b6.mono e5'.size)
       cases hV:V k with
       |false=>
        rw [hV] at hg
        go_wp2
        go_ret2
        exact⟨_,by rw [←hg];rfl,ams.trans (e6.mono ams.size),λh=>by rw [←hg] at h;cases h⟩
       |true=>
        rw [hV] at hg
        have ho6:=ob.grow e6
        have arz:w6.cell? ⟨w1.heap.size,k,none⟩=some (.pointer none):=by
         obtain⟨f,h1,h2,_⟩:=ho6
         rw [h1.cell bU,h2 k (ZB5 _)]
        have ary:w6.frozen? ⟨w1.heap.size,k,none⟩=false:=by
         obtain⟨f,h1,_,_⟩:=ho6
         exact h1.frozen k
        have hnb:w6.heap[w5.heap.size]?=some (.cells (am3 (N k)) 49 (0,0)):=(b6.block _ (by show _<(w5.heap.push _).size;rw [Array.size_push];omega)).trans (heap_alloc_new w5 _)
        have ad5:=ho6.set bU (m:=N k) (by rw [hH];rfl) hnb
        have ali:Below w1.heap.size w1 (w6.setCell ⟨w1.heap.size,k,none⟩ (.pointer (some ⟨w5.heap.size,0,none⟩))):=(hnx.trans (e6.mono hnx.size)).setCell (p:=⟨w1.heap.size,k,none⟩) (ZB5 _) _
        go_wp2
        refine⟨⟨k+1,bU,ζ,ali,ad5,hg⟩,?_⟩
        show L.length-((k:Int)+1).toNat<L.length-((k:Int)).toNat
        omega
    ·have hkk:k=L.length:=by omega
     subst hkk
     rw [Nat.sub_self,aoz] at hg
     go_wp2
     go_ret2
     exact⟨_,by rw [←hg];rfl,b1.trans (hnx.mono b1.size),λ_=>⟨w1.heap.size,rfl,ob⟩⟩
end GL
namespace GL
open Go.RowKit
def amV (s sep:ByteArray):ByteArray×ByteArray×Bool:=(⟨(Lib.cut s.data.toList sep.data.toList).1.toArray⟩,⟨(Lib.cut s.data.toList sep.data.toList).2.1.toArray⟩,(Lib.cut s.data.toList sep.data.toList).2.2)
def aqu:cn:=X3 [.s .str,.s .str] (λx=>x.1.size≤1000000) λx=>.t [.s (.str (amV x.1 x.2).1),.s (.str (amV x.1 x.2).2.1),.s (.q (amV x.1 x.2).2.2)]
theorem aqP:Has Tryz.prog 197 aqu:=by
 refine Has.lib ⟨_,Tryz.func197,by rfl,by decide⟩ (λx=>⟨rfl,rfl⟩) λ(x:ByteArray×ByteArray) (hp:x.1.size≤1000000) W T β vs hT hN c6=>?_
 obtain⟨s,sep⟩:=x
 obtain⟨v,u,rfl⟩:∃v u,vs=[v,u]:=by
  match vs,c6 with
  |[v,u],_=>exact⟨v,u,rfl⟩
  |[],h=>exact h.elim
  |[_],h=>exact h.2.elim
  |_::_::_::_,h=>exact h.2.2.elim
 have hv:v= .string s:=c6.1
 have hu:u= .string sep:=c6.2.1
 subst hv;subst hu
 obtain⟨cs,e,fr,h1,m,rfl⟩:=PM hT hN (g:=1) (p:=λcs=>∃n,cs= #[.int .i64 n]) (by unfold zU;simp)
 have hm:W.cell? ⟨1,0,none⟩=some (.int .i64 m):=by rw [rr h1];rfl
 have hp1:s.size≤1000000:=hp
 have hs:s.size<4294967281:=by omega
 refine (Tryz.strings_Cut s sep m W hs hm).mono ?_
 rintro e w' ⟨rfl,n,rfl⟩
 refine⟨_,ζ,⟨ζ,ζ,ζ,ZB5 _,λ_ _=>rfl⟩,?_⟩
 exact⟨_,rfl,rfl,rfl,rfl,trivial⟩
theorem aq1 (s:ByteArray) (arA:s.size≤1000000) (w:World):Calls Tryz.prog 219 #[.string s] w λe w'=>e= .returned (.string s)∧Below w.heap.size w w':=by
 by_cases h0:s.size=0
 ·have hs:s=⟨#[]⟩:=ByteArray.ext (Array.eq_empty_of_size_eq_zero h0)
  subst hs
  go_enter Tryz.func219,Tryz.ntmps219
  go_wp2
  go_ret
  exact⟨rfl,Below.refl _ _⟩
 ·obtain⟨M,hM⟩:∃M,M=madeCells #[Value.int .u8 0] s.size:=⟨_,rfl⟩
  have hMs:M.size=s.size:=by rw [hM];exact size_madeCells _ _
  have hmk:∀W:World,(Instr.makeSlice 22 (.int .i64 (s.size:Int)) (.int .i64 (s.size:Int))).run Tryz.prog W= .ok (.slice (some ⟨W.heap.size,0,none⟩) s.size s.size) (W.alloc (.cells M 5)):=λW=>by
   rw [hM]
   exact run_make_row' (P:=Tryz.prog) 22 5 (.int .u8 0) 1 (by kernel_rfl) (by kernel_rfl) rfl .i64 .i64 s.size (by omega) (by omega) W
  clear hM
  have hcp:=Lib.run_copy_row_string (P:=Tryz.prog) (w.alloc (.cells M 5)) 22 9 3 5 w.heap.size 0 s.size s.size s M 5 (by kernel_rfl) (by kernel_rfl) (heap_alloc_new w _) (ZB5 _) (by omega)
  obtain⟨Y,hY⟩:∃Y,Y=(M.toList.take 0++Lib.byteCells s.data.toList++M.toList.drop (0+s.size)).toArray:=⟨_,rfl⟩
  rw [←hY] at hcp
  have hYl:Y.toList=Lib.byteCells s.data.toList:=by
   rw [hY,List.toList_toArray,List.take_zero,ZD0,List.drop_of_length_le (by rw [ZE4];omega),ZE5]
  have hYs:Y.size=s.size:=by rw [←ZE4,hYl,Lib.byteCells_length,←Lib.size_eq]
  have hgY:((w.alloc (.cells M 5)).setRow w.heap.size Y).heap[w.heap.size]?=some (.cells Y 5 (0,0)):=setRow_heap _ _ M _ 5 (0,0) (heap_alloc_new w _)
  have fA:s.data.toList≠[]:=λe=>h0 (by rw [Lib.size_eq,e];rfl)
  have hUS:=Lib.run_unsafeString_row (P:=Tryz.prog) ((w.alloc (.cells M 5)).setRow w.heap.size Y) 184 3 9 5 (by kernel_rfl) (by kernel_rfl) w.heap.size Y.size (by unfold World.shape?;rw [hgY]) s.data.toList fA (by rw [←Lib.size_eq];omega) (by rw [←Lib.size_eq];omega)
   (λj x hx=>Lib.cells_of_row hgY Y.size j _ (by rw [ZD1 (by rw [ZE4];exact ZB5 _),hYl];simp [Lib.byteCells,hx]))
  rw [←Lib.size_eq] at hUS
  clear hY
  go_enter Tryz.func219,Tryz.ntmps219
  go_wp2
  go_ret
  have hb1:Below w.heap.size w (w.alloc (.cells M 5)):=(Below.refl _ w).alloc (ZB5 _) _
  have hb2:Below w.heap.size (w.alloc (.cells M 5)) ((w.alloc (.cells M 5)).setRow w.heap.size Y):=⟨rfl,rfl,rfl,by simp,λk hk=>setRow_other _ _ _ _ (by omega)⟩
  exact⟨rfl,Lib.below_freeze (hb1.trans hb2) (p:=⟨w.heap.size,0,none⟩) (ZB5 _) _⟩
def aoQ:cn:=X3 [.s .str] (λs=>s.size≤1000000) λs=>.s (.str s)
theorem apE:Has Tryz.prog 198 aoQ:=by
 refine Has.lib ⟨_,Tryz.func198,by rfl,by decide⟩ (λx=>⟨rfl,rfl⟩) λ(s:ByteArray) (hp:s.size≤1000000) W T β vs hT hN c6=>?_
 obtain⟨v,rfl⟩:∃v,vs=[v]:=by
  match vs,c6 with
  |[v],_=>exact⟨v,rfl⟩
  |[],h=>exact h.elim
  |_::_::_,h=>exact h.2.elim
 have hv:v= .string s:=c6.1
 subst hv
 have h:Calls Tryz.prog 198 #[.string s] W λe w'=>e= .returned (.string s)∧Below W.heap.size W w':=by
  go_enter Tryz.func198,Tryz.ntmps198
  go_wp2_with (go_at_call 219;refine (aq1 s hp _).mono ?_)
  rintro e w' ⟨rfl,hB⟩
  go_wp2
  go_ret
  exact⟨rfl,hB⟩
 refine h.mono ?_
 rintro e w' ⟨rfl,hB⟩
 exact⟨_,rfl,hB,rfl⟩
end GL
namespace GL
theorem aqr (c:UInt8):∀(p t:List UInt8),c∉p→Lib.indexByte (p++c::t) c=p.length
 |[],t,_=>by simp [Lib.indexByte]
 |b::p,t,h=>by
  have hb:b≠c:=λe=>h (e ▸ List.mem_cons_self)
  have ih:=aqr c p t (λhm=>h (List.mem_cons_of_mem _ hm))
  show (if b==c then 0 else if Lib.indexByte (p++c::t) c== -1 then -1 else Lib.indexByte (p++c::t) c+1)=_
  rw [ih,if_neg (by simpa using hb),if_neg (by simp<;>omega)]
  simp
theorem apZ (c:UInt8):∀(l:List UInt8),c∉l→Lib.indexByte l c= -1
 |[],_=>rfl
 |b::l,h=>by
  have hb:b≠c:=λe=>h (e ▸ List.mem_cons_self)
  have ih:=apZ c l (λhm=>h (List.mem_cons_of_mem _ hm))
  show (if b==c then 0 else if Lib.indexByte l c== -1 then -1 else Lib.indexByte l c+1)=_
  rw [ih,if_neg (by simpa using hb)];rfl
theorem aoi {s:ByteArray}{c:UInt8}{p t:List UInt8}(h:lb s=p++c::t) (hn:c∉p):amV s ⟨#[c]⟩=(⟨p.toArray⟩,⟨t.toArray⟩,true):=by
 have hi:Lib.index s.data.toList (⟨#[c]⟩:ByteArray).data.toList=p.length:=by
  show Lib.index (lb s) [c]=_
  rw [Lib.index_one,h,aqr c p t hn]
 have hd:s.data.toList=p++c::t:=h
 unfold amV Lib.cut
 rw [hi,if_pos (by omega)]
 show ((⟨(List.take p.length s.data.toList).toArray⟩,⟨(List.drop (p.length+1) s.data.toList).toArray⟩,true):ByteArray×ByteArray×Bool)=_
 rw [hd,List.take_left,show p.length+1=(p++[c]).length by simp,show p++c::t=(p++[c])++t by simp,List.drop_left]
theorem aql {s:ByteArray}{c:UInt8}(h:c∉lb s):(amV s ⟨#[c]⟩).2.2=false:=by
 have hi:Lib.index s.data.toList (⟨#[c]⟩:ByteArray).data.toList= -1:=by
  show Lib.index (lb s) [c]=_
  rw [Lib.index_one,apZ c _ h]
 unfold amV Lib.cut
 rw [hi];rfl
theorem ao2 {s:ByteArray}{c:UInt8}(h:(amV s ⟨#[c]⟩).2.2=true):lb s=lb (amV s ⟨#[c]⟩).1++c::lb (amV s ⟨#[c]⟩).2.1:=by
 by_cases hm:c∈lb s
 ·obtain⟨p,t,e,hn⟩:=List.eq_append_cons_of_mem hm
  rw [aoi e hn];exact e
 ·rw [aql hm] at h;cases h
theorem aqk (s sep:ByteArray):(amV s sep).1.size≤s.size∧(amV s sep).2.1.size≤s.size:=by
 have e2:s.data.toList.length=s.size:=ZE4
 unfold amV Lib.cut
 by_cases h:0≤Lib.index s.data.toList sep.data.toList
 ·rw [if_pos h]
  refine⟨?_,?_⟩
  ·show (List.take _ s.data.toList).length≤s.size
   rw [ZB9];omega
  ·show (List.drop _ s.data.toList).length≤s.size
   rw [ZC8];omega
 ·rw [if_neg h]
  exact⟨ZA8 e2,ZA7 _⟩
theorem apu {s:ByteArray}{c:UInt8}(h:(amV s ⟨#[c]⟩).2.2=true):(amV s ⟨#[c]⟩).2.1.size<s.size:=by
 have h1:=congrArg List.length (ao2 h)
 rw [ZA0,ZA1,←fo,←fo,←fo] at h1
 omega
theorem aor:∀{l:List ByteArray}{out:ByteArray},out.size+(C8 l).length≤2048→(dB l out).2=true
 |[],_,_=>rfl
 |x::l,out,h=>by
  simp only [C8,ZA0,ZA1,←fo] at h
  have dj:(out++bX x.size++⟨#[58]⟩++x).size=out.size+(bX x.size).size+1+x.size:=by
   simp only [ZB2];rfl
  unfold dB
  rw [decide_eq_false (by omega),cond_false,decide_eq_false (by rw [dj];omega),cond_false]
  exact aor (by rw [dj];omega)
theorem aqg {s:ByteArray}{l:List ByteArray}(h:lb s=C8 l) (hs:s.size≤2048) (hl:l.length≤60):cE l=(s,true):=by
 have h60:decide ((l.length:Int)≤60)=true:=decide_eq_true (by omega)
 have hy:(dB l ⟨#[]⟩).2=true:=aor (by show 0+_≤_;rw [←h,←fo];omega)
 rw [gE h60]
 refine Prod.ext (vx ?_) hy
 rw [(D9 hy).1,h];rfl
theorem aoZ {s:ByteArray}{l:List ByteArray}(h:lb s=C8 l) (hs:s.size≤2048) (hl:l.length≤60):bq s=(l,true):=by
 have e:=aqg h hs hl
 have:=I9 (l:=l) (by rw [e])
 rw [e] at this;exact this
theorem aoY {s:ByteArray}(h:(bq s).2=true):lb s=C8 (bq s).1∧s.size≤2048∧(bq s).1.length≤60∧∀x∈(bq s).1,x.size≤2048:=by
 cases h48:decide ((s.size:Int)≤2048) with
 |false=>rw [oW h48] at h;cases h
 |true=>
  have hs:s.size≤2048:=by have:=aJ h48;omega
  cases hf:JB (s.size+1) s 0 [] with
  |none=>rw [gF h48 hf] at h;cases h
  |some out=>
   rw [jW h48 hf] at h ⊢
   cases h1: !(cE out).2 with
   |true=>rw [Z7 h1] at h;cases h
   |false=>
    cases h2:decide ((cE out).1≠s) with
    |true=>rw [Z6 h2] at h;cases h
    |false=>
     rw [Z5 h1 h2]
     have e1:(cE out).1=s:=Classical.not_not.1 (aA h2)
     have e2:(cE out).2=true:=by simpa using h1
     cases h60:decide ((out.length:Int)≤60) with
     |false=>rw [tP h60] at e2;cases e2
     |true=>
      rw [gE h60] at e1 e2
      have h3:=D9 e2
      rw [e1] at h3
      exact⟨h3.1,hs,by show out.length≤60;have:=aJ h60;omega,h3.2.1⟩
theorem aoX {s:ByteArray}(h:(bq s).2=false):bq s=([],false):=by
 cases h48:decide ((s.size:Int)≤2048) with
 |false=>exact oW h48
 |true=>
  cases hf:JB (s.size+1) s 0 [] with
  |none=>exact gF h48 hf
  |some out=>
   rw [jW h48 hf] at h ⊢
   cases h1: !(cE out).2 with
   |true=>exact Z7 h1
   |false=>
    cases h2:decide ((cE out).1≠s) with
    |true=>exact Z6 h2
    |false=>rw [Z5 h1 h2] at h;cases h
theorem aqp (s:ByteArray):0≤(aD s).1:=by
 cases h:(aD s).2 with
 |true=>exact (num_inv (show aD s=((aD s).1,true) by rw [←h])).2.1
 |false=>
  unfold aD at h ⊢
  cases hc:decide ((CN s).2=0)||decide ((CN s).2≠(s.size:Int)) with
  |true=>exact ZC1 _
  |false=>rw [hc] at h;cases h
structure FgS (s:ByteArray) (out:List ByteArray) (rest:ByteArray):Prop where
 sz:s.size≤2048
 len:out.length≤60
 e:lb s=C8 out++lb rest
 all:∀l,lb s=C8 l→l.length≤60→∃r,l=out++r∧lb rest=C8 r
theorem apH:∀(a b:List ByteArray),C8 (a++b)=C8 a++C8 b
 |[],_=>rfl
 |x::a,b=>by rw [ZG7,C8,C8,apH a b];simp
theorem FgS.z {s:ByteArray}(h:s.size≤2048):FgS s [] s:=⟨h,ZA7 _,rfl,λl h _=>⟨l,rfl,h⟩⟩
theorem FgS.rest {s rest:ByteArray}{out:List ByteArray}(h:FgS s out rest):rest.size≤2048:=by
 have h1:=congrArg List.length h.e
 rw [ZA0,←fo,←fo] at h1
 have:=h.sz;omega
theorem FgS.y {s rest:ByteArray}{out:List ByteArray}(h:FgS s out rest) (h1:(amV rest ⟨#[58]⟩).2.2=true) (h2:(aD (amV rest ⟨#[58]⟩).1).2=true) (h3:(aD (amV rest ⟨#[58]⟩).1).1≤(amV rest ⟨#[58]⟩).2.1.size) (h4:out.length≠60):
  FgS s (out++[(amV rest ⟨#[58]⟩).2.1.extract 0 (aD (amV rest ⟨#[58]⟩).1).1.toNat]) ((amV rest ⟨#[58]⟩).2.1.extract (aD (amV rest ⟨#[58]⟩).1).1.toNat (amV rest ⟨#[58]⟩).2.1.size):=by
 have hi:=ao2 h1
 obtain⟨q1,q2,q3⟩:=num_inv (show aD (amV rest ⟨#[58]⟩).1=((aD (amV rest ⟨#[58]⟩).1).1,true) by rw [←h2])
 generalize hn:(aD (amV rest ⟨#[58]⟩).1).1=n at *
 generalize hT:(amV rest ⟨#[58]⟩).2.1=t at *
 have hi:lb rest=lb (bX n)++58::lb t:=by rw [←q1];exact hi
 have xC:List.take t.size (lb t)=lb t:=ZD1 (by rw [fo];exact ZB5 _)
 have dj:(t.extract 0 n.toNat).size=n.toNat:=by rw [ZC5];omega
 have hd:(((t.extract 0 n.toNat).size:Nat):Int)=n:=by rw [dj];omega
 have hsp:lb (t.extract 0 n.toNat)++lb (t.extract n.toNat t.size)=lb t:=by
  rw [mT,mT,ZF0,xC,ZG1]
 refine⟨h.sz,by rw [ZA0];have:=h.len;simp only [ZA1,ZA4];omega,?_,λl hl h60=>?_⟩
 ·rw [h.e,apH,ZD2]
  congr 1
  show lb rest=(lb (bX _)++58::(lb _++[]))++_
  rw [hd,hi,ZE5,←hsp]
  simp
 ·obtain⟨r,rfl,hr⟩:=h.all l hl h60
  cases r with
  |nil=>rw [hi] at hr;have:=congrArg List.length hr;simp [C8] at this
  |cons x r=>
   have hr:lb rest=lb (bX x.size)++58::(lb x++C8 r):=hr
   have hc:=aoi (s:=rest) (c:=58) hr (po (by decide))
   have hc1:lb (bX n)=lb (bX x.size):=by
    rw [←q1]
    show lb (amV rest ⟨#[58]⟩).1=_
    rw [hc]
   have hxn:n=(x.size:Int):=by
    have hx9:x.size<1000000000:=by
     have h5:=congrArg List.length hr
     simp only [ZA0,ZA1,←fo] at h5
     have:=h.rest;omega
    have a1:=eu (n:=n) q2 (by omega)
    have a2:=eu (n:=(x.size:Int)) (by omega) (by omega)
    rw [vx hc1,a2] at a1
    exact (congrArg Prod.fst a1).symm
   have hc2:lb t=lb x++C8 r:=by
    rw [←hT]
    show lb (amV rest ⟨#[58]⟩).2.1=_
    rw [hc]
   have hxl:n.toNat=(lb x).length:=by rw [←fo];omega
   have hx:t.extract 0 n.toNat=x:=vx (by rw [mT,ZF0,hc2,hxl,List.take_left])
   refine⟨r,by rw [hx];simp,?_⟩
   rw [mT,xC,hc2,hxl,List.drop_left]
theorem FgS.n {s rest:ByteArray}{out:List ByteArray}(h:FgS s out rest) (hr:rest≠⟨#[]⟩) (hb:(amV rest ⟨#[58]⟩).2.2=true→(aD (amV rest ⟨#[58]⟩).1).2=true→(aD (amV rest ⟨#[58]⟩).1).1≤(amV rest ⟨#[58]⟩).2.1.size→out.length≠60→False):bq s=([],false):=by
 cases hy:(bq s).2 with
 |false=>exact aoX hy
 |true=>
  obtain⟨h1,_,h3,h4⟩:=aoY hy
  generalize (bq s).1=l at *
  obtain⟨r,rfl,hr2⟩:=h.all l h1 h3
  cases r with
  |nil=>exact absurd (vx (hr2.trans rfl)) hr
  |cons x r=>
   have hr2:lb rest=lb (bX x.size)++58::(lb x++C8 r):=hr2
   have hc:=aoi (s:=rest) (c:=58) hr2 (po (by decide))
   have hx:=h4 x (by simp)
   have a2:=eu (n:=(x.size:Int)) (by omega) (by omega)
   have e1:(amV rest ⟨#[58]⟩).1=bX x.size:=vx (by show lb (amV rest ⟨#[58]⟩).1=_;rw [hc])
   have e2:lb (amV rest ⟨#[58]⟩).2.1=lb x++C8 r:=by show lb (amV rest ⟨#[58]⟩).2.1=_;rw [hc]
   refine (hb (by show (amV rest ⟨#[58]⟩).2.2=true;rw [hc]) (by rw [e1,a2]) ?_ ?_).elim
   ·rw [e1,a2]
    have:=congrArg List.length e2
    rw [ZA0,←fo,←fo] at this
    show (x.size:Int)≤_
    omega
   ·rw [ZA0,ZA1] at h3;omega
theorem FgS.f {s rest:ByteArray}{out:List ByteArray}(h:FgS s out rest) (hr:rest=⟨#[]⟩):bq s=(out,true):=by
 subst hr
 exact aoZ (by rw [h.e,adI,ZE5]) h.sz h.len
end GL
namespace GL
noncomputable section
theorem vwS {x:ByteArray}{l:List ByteArray}{b:Bool}:AV.t [.s (.vw ab (List.take (l.length+1) (x::l))),.s (.q b)]= .t [.s (.vw ab (x::l)),.s (.q b)]:=by rw [show List.take (l.length+1) (x::l)=x::l from ZD1 (ZB5 _)]
def am0 (s:ByteArray):Prop:=s.size≤1000000
def amU (s:ByteArray):AV:=.t [.s (.vw ab (bq s).1),.s (.q (bq s).2)]
def aoT (s:ByteArray):List AV:=[]
def am4:cn where
 A:=[.s .str]
 B:=[]
 pre:=λx b=>am0 x
 r:=λx b _=>amU x
 o:=λx b _=>aoT x
theorem aoa:Has Tryz.prog 163 am4:=by
 refine Has.al9 zT zF zF (l:=[(197,aqu),(164,iT),(198,aoQ)]) ⟨aqP,MG,apE,aa⟩ Tryz.func163 ?_
 rintro (s:ByteArray) _ (hp:am0 s)
 show vc _ _ _ _ (entry [.str s] []) _
 unfold am0 at hp
 refine⟨λw1=>?_,λw2=>?_⟩
 all_goals first|refine aw ?_|refine ax ?_|exact a8|(dsimp only [iT,gw];omega)|exact a7|skip
 ·have e:bq s=([],false):=oW (decide_eq_false (by have:=aJ w1;omega))
  refine⟨[],[],_,_,_,ζ,cf,(),0,trivial,by show Wk (amU s) _;unfold amU;rw [e];exact Wk.tup ⟨Wk.nil _,Wk.refl _,trivial⟩,ζ,ζ⟩
 ·have hs:s.size≤2048:=by have:=aA (p:=(s.size:Int)>2048) w2;omega
  refine lW (l:=[(197,aqu),(164,iT),(198,aoQ)]) (ex:=zT) (wr:=zF) (pt:=zF) ⟨aqP,MG,apE,aa⟩ [.s 0] (λy:List ByteArray×ByteArray=>match y.1 with |[]=>[(.s 4,.s (.v (.slice none 0 0))),(.s 5,.str y.2)] |x::l=>[(.s 4,.s (.xs 1007 1 0 (l.length+1))),(.s 5,.str y.2),(.b 1007,.rs ab (x::l))]) (λy=>FgS s y.1 y.2) (λy=>y.2.size) ([],s) [] (FgS.z hs) dM ?_
  rintro⟨out,rest⟩ (hF:FgS s out rest)
  have hrs:=hF.rest
  have hlen:=hF.len
  have hct:=aqk rest ⟨#[58]⟩
  have hnb:0≤(aD (amV rest ⟨#[58]⟩).1).1:=aqp _
  cases out with
  |nil=>
   refine⟨λw1=>⟨⟨tv3,?_⟩,λx2 w3=>⟨⟨tv2,?_⟩,λx4 w5=>⟨aa,λw6=>?_,λw7=>⟨aa,λw8=>?_,λw9=>⟨aa,λdy=>?_,λkA=>⟨λdJ=>?_,λiU=>⟨⟨?_,?_,?_⟩,⟨tv2,?_⟩,λx14 qK=>⟨aa,⟨⟨?_,?_⟩,?_,?_⟩,⟨?_,?_,?_⟩,?_⟩⟩⟩⟩⟩⟩⟩⟩,λkg=>?_⟩
   all_goals first|refine aw ?_|refine ax ?_|exact a8|(dsimp only [iT,gw];omega)|exact a7|(show rest.size≤1000000;omega)|(show (amV rest ⟨#[58]⟩).1.size≤1000000;omega)|exact hnb|skip
   ·have e:=hF.n (aJ w1) (λa _ _ _=>absurd ((xm w6).symm.trans a) Bool.noConfusion)
    refine⟨[],[],_,_,_,ζ,cf,(),0,trivial,by show Wk (amU s) _;unfold amU;rw [e];exact Wk.tup ⟨Wk.nil _,Wk.refl _,trivial⟩,ζ,ζ⟩
   ·have e:=hF.n (aJ w1) (λ_ a _ _=>absurd ((xm w8).symm.trans a) Bool.noConfusion)
    refine⟨[],[],_,_,_,ζ,cf,(),0,trivial,by show Wk (amU s) _;unfold amU;rw [e];exact Wk.tup ⟨Wk.nil _,Wk.refl _,trivial⟩,ζ,ζ⟩
   ·have e:=hF.n (aJ w1) (λ_ _ a _=>by have h:=aJ dy;exact absurd h (ZH1.2 a))
    refine⟨[],[],_,_,_,ζ,cf,(),0,trivial,by show Wk (amU s) _;unfold amU;rw [e];exact Wk.tup ⟨Wk.nil _,Wk.refl _,trivial⟩,ζ,ζ⟩
   ·have e:=hF.n (aJ w1) (λ_ _ _ a=>absurd dJ (by decide))
    refine⟨[],[],_,_,_,ζ,cf,(),0,trivial,by show Wk (amU s) _;unfold amU;rw [e];exact Wk.tup ⟨Wk.nil _,Wk.refl _,trivial⟩,ζ,ζ⟩
   ·show ((amV rest ⟨#[58]⟩).2.1.extract 0 (aD (amV rest ⟨#[58]⟩).1).1.toNat).size≤1000000
    rw [ZC5];omega
   ·refine⟨([(amV rest ⟨#[58]⟩).2.1.extract 0 (aD (amV rest ⟨#[58]⟩).1).1.toNat],(amV rest ⟨#[58]⟩).2.1.extract (aD (amV rest ⟨#[58]⟩).1).1.toNat (amV rest ⟨#[58]⟩).2.1.size),[(1007,1051)],?_,?_,?_⟩
    rotate_right
    ·exact bV
    ·exact hF.y (cL w7) (cL w9) (ZH1.1 (aA kA)) (by decide)
    ·have h1:(amV rest ⟨#[58]⟩).2.1.size<rest.size:=apu (cL w7)
     show ((amV rest ⟨#[58]⟩).2.1.extract (aD (amV rest ⟨#[58]⟩).1).1.toNat (amV rest ⟨#[58]⟩).2.1.size).size<rest.size
     rw [ZC5];omega
   ·have e:=hF.f (Classical.not_not.1 (aA kg))
    refine⟨[],[],_,_,_,ζ,cf,(),0,trivial,by show Wk (amU s) _;unfold amU;rw [e];exact Wk.tup ⟨Wk.nil _,Wk.refl _,trivial⟩,ζ,ζ⟩
  |cons z l=>
   refine⟨λw1=>⟨⟨tv3,?_⟩,λx2 w3=>⟨⟨tv2,?_⟩,λx4 w5=>⟨aa,λw6=>?_,λw7=>⟨aa,λw8=>?_,λw9=>⟨aa,λdy=>?_,λkA=>⟨λdJ=>?_,λiU=>⟨⟨?_,?_,?_⟩,⟨tv2,?_⟩,λx14 qK=>⟨aa,⟨⟨?_,?_⟩,?_,?_⟩,⟨?_,?_,?_⟩,?_⟩⟩⟩⟩⟩⟩⟩⟩,λkg=>?_⟩
   all_goals first|refine aw ?_|refine ax ?_|exact a8|(dsimp only [iT,gw];omega)|exact a7|(show rest.size≤1000000;omega)|(show (amV rest ⟨#[58]⟩).1.size≤1000000;omega)|exact hnb|skip
   ·have e:=hF.n (aJ w1) (λa _ _ _=>absurd ((xm w6).symm.trans a) Bool.noConfusion)
    refine⟨[],[],_,_,_,ζ,cf,(),0,trivial,by show Wk (amU s) _;unfold amU;rw [e];exact Wk.tup ⟨Wk.nil _,Wk.refl _,trivial⟩,ζ,ζ⟩
   ·have e:=hF.n (aJ w1) (λ_ a _ _=>absurd ((xm w8).symm.trans a) Bool.noConfusion)
    refine⟨[],[],_,_,_,ζ,cf,(),0,trivial,by show Wk (amU s) _;unfold amU;rw [e];exact Wk.tup ⟨Wk.nil _,Wk.refl _,trivial⟩,ζ,ζ⟩
   ·have e:=hF.n (aJ w1) (λ_ _ a _=>by have h:=aJ dy;exact absurd h (ZH1.2 a))
    refine⟨[],[],_,_,_,ζ,cf,(),0,trivial,by show Wk (amU s) _;unfold amU;rw [e];exact Wk.tup ⟨Wk.nil _,Wk.refl _,trivial⟩,ζ,ζ⟩
   ·have e:=hF.n (aJ w1) (λ_ _ _ a=>a (by have h:=aJ dJ;show l.length+1=60;omega))
    refine⟨[],[],_,_,_,ζ,cf,(),0,trivial,by show Wk (amU s) _;unfold amU;rw [e];exact Wk.tup ⟨Wk.nil _,Wk.refl _,trivial⟩,ζ,ζ⟩
   ·show ((amV rest ⟨#[58]⟩).2.1.extract 0 (aD (amV rest ⟨#[58]⟩).1).1.toNat).size≤1000000
    rw [ZC5];omega
   ·refine⟨(z::(l++[(amV rest ⟨#[58]⟩).2.1.extract 0 (aD (amV rest ⟨#[58]⟩).1).1.toNat]),(amV rest ⟨#[58]⟩).2.1.extract (aD (amV rest ⟨#[58]⟩).1).1.toNat (amV rest ⟨#[58]⟩).2.1.size),[(1007,1051)],?_,?_,?_⟩
    rotate_right
    ·exact bV
    ·exact hF.y (cL w7) (cL w9) (ZH1.1 (aA kA)) (λh=>aA iU (by show ((l.length+1:Nat):Int)=60;have h:l.length+1=60:=h;omega))
    ·have h1:(amV rest ⟨#[58]⟩).2.1.size<rest.size:=apu (cL w7)
     show ((amV rest ⟨#[58]⟩).2.1.extract (aD (amV rest ⟨#[58]⟩).1).1.toNat (amV rest ⟨#[58]⟩).2.1.size).size<rest.size
     rw [ZC5];omega
   ·have e:=hF.f (Classical.not_not.1 (aA kg))
    refine⟨[],[],_,_,_,ζ,cf,(),0,trivial,by show Wk (amU s) _;unfold amU;rw [e];exact Wk.of_eq vwS.symm,ζ,ζ⟩
def am9 (f:List ByteArray):Prop:=f.length=3∧∀k,(nth ab f k).size≤1000000
def am8 (f:List ByteArray):AV:=.t [trA ((bP (nth ab f 0)).1.1,(bP (nth ab f 0)).1.2.1,(bP (nth ab f 0)).1.2.2.1,(bP (nth ab f 0)).1.2.2.2.1,(bP (nth ab f 0)).1.2.2.2.2,(aD (nth ab f 1)).1,(aD (nth ab f 2)).1),.s (.q ((bP (nth ab f 0)).2&&(aD (nth ab f 1)).2&&(aD (nth ab f 2)).2))]
def apO (f:List ByteArray):List AV:=[]
def anf:cn where
 A:=[.s (.vw ab)]
 B:=[]
 pre:=λx b=>am9 x
 r:=λx b _=>am8 x
 o:=λx b _=>apO x
theorem ao4:Has Tryz.prog 165 anf:=by
 refine Has.zB zT zF zF (l:=[(193,pq),(164,iT)]) ⟨MF,MG,aa⟩ Tryz.func165 ?_
 rintro (f:List ByteArray) _ (hp:am9 f)
 show vc _ _ _ _ (entry [.s (.vw ab f)] []) _
 obtain⟨h3,dj⟩:=hp
 refine⟨⟨?_,?_⟩,⟨tv2,?_⟩,λx1 w2=>⟨⟨?_,?_⟩,⟨tv2,?_⟩,λx3 w4=>⟨⟨?_,?_⟩,⟨tv2,?_⟩,λx5 w6=>⟨aa,λw7=>⟨aa,λw8=>?_,λw9=>?_⟩,λdy=>?_⟩⟩⟩⟩
 all_goals first|refine aw ?_|refine ax ?_|exact a8|(dsimp only [pq,ld,iT,gw];omega)|exact a7|exact dj _|skip
 ·have e:((bP (nth ab f 0)).2&&(aD (nth ab f 1)).2&&(aD (nth ab f 2)).2)=(aD (nth ab f 2)).2:=by rw [show (bP (nth ab f 0)).2=true from w7,show (aD (nth ab f 1)).2=true from w8];rfl
  refine⟨[],[],_,_,_,ζ,az,(),aa,?_,?_,ζ⟩
  ·(show _=am8 f);unfold am8;first|(rw [e];rfl)|rfl
  ·rfl
 ·have e:((bP (nth ab f 0)).2&&(aD (nth ab f 1)).2&&(aD (nth ab f 2)).2)=false:=by rw [show (aD (nth ab f 1)).2=false from w9,ZD7];rfl
  refine⟨[],[],_,_,_,ζ,az,(),aa,?_,?_,ζ⟩
  ·(show _=am8 f);unfold am8;first|(rw [e];rfl)|rfl
  ·rfl
 ·have e:((bP (nth ab f 0)).2&&(aD (nth ab f 1)).2&&(aD (nth ab f 2)).2)=false:=by rw [show (bP (nth ab f 0)).2=false from dy];rfl
  refine⟨[],[],_,_,_,ζ,az,(),aa,?_,?_,ζ⟩
  ·(show _=am8 f);unfold am8;first|(rw [e];rfl)|rfl
  ·rfl
end
end GL
namespace GL
theorem aqN {k s:Int}(h:decide (k=1)=true):bH k s=bif !(ik s 0 (16*12)) then -1 else (s+12-1) / 12:=by have:=aJ h;subst this;rfl
theorem aqq {k s:Int}(h:decide (k=1)=false) (h2:decide (k=2)=true):bH k s=bif !(ik s 0 (16*128)) then -1 else (s+128-1) / 128:=by have:=aJ h2;subst this;rfl
theorem arj {k s:Int}(h:decide (k=1)=false) (h2:decide (k=2)=false):bH k s= -1:=by unfold bH ko;rw [h,h2];rfl
def anp (k:Int) (s:Int):Prop:=True
def amY (k:Int) (s:Int):AV:=.s (.int (bH k s))
def aoE (k:Int) (s:Int):List AV:=[]
def anD:cn where
 A:=[.s .int,.s .int]
 B:=[]
 pre:=λx b=>anp (x.1) (x.2)
 r:=λx b _=>amY (x.1) (x.2)
 o:=λx b _=>aoE (x.1) (x.2)
theorem aoV:Has Tryz.prog 53 anD:=by
 refine Has.zB zT zF zF (l:=[(32,cr)]) ⟨fM,aa⟩ Tryz.func53 ?_
 rintro⟨(k:Int),(s:Int)⟩ _ (hp:anp k s)
 show vc _ _ _ _ (entry [.int k,.int s] []) _
 have hI:∀e:Int,(!(ik s 0 (16*e)))=false→0≤s∧s≤16*e:=λe h=>cC.1 (cL h)
 refine⟨λw1=>⟨aa,λw2=>?_,λw3=>⟨⟨?_,?_⟩,⟨tv4,aa⟩,λx4 w5=>⟨λw6=>?_,λw7=>⟨⟨?_,?_⟩,⟨?_,?_⟩,⟨?_,?_,?_⟩,?_⟩⟩⟩⟩,λw8=>⟨λw9=>⟨aa,λdy=>?_,λkA=>⟨⟨?_,?_⟩,⟨tv4,aa⟩,λx12 iU=>⟨λgO=>?_,λqK=>⟨⟨?_,?_⟩,⟨?_,?_⟩,⟨?_,?_,?_⟩,?_⟩⟩⟩⟩,λkg=>⟨aa,λxh=>?_,λrS=>⟨⟨?_,?_⟩,⟨tv4,aa⟩,λx19 uI=>⟨λA4=>?_,λA3=>⟨⟨?_,?_⟩,⟨?_,?_⟩,⟨?_,?_,?_⟩,?_⟩⟩⟩⟩⟩⟩
 all_goals first|refine aw ?_|refine ax ?_|exact a8|(dsimp only [cr,df];omega)|exact a7|exact absurd rfl (aA rS)|(have h:=hI 12 w7;show 0≤s+12-1;omega)|(have h:=hI 128 qK;show 0≤s+128-1;omega)|(have h:=hI 12 w7;simp only [gK,imax];omega)|(have h:=hI 128 qK;simp only [gK,imax];omega)|skip
 all_goals first|exact absurd rfl (aA rS)|exact absurd (aJ w2) (by decide)|exact absurd (aJ dy) (by decide)|skip
 ·have e:bH k s= -1:=(aqN w1).trans (by rw [show (!(ik s 0 (16*12)))=true from w6];rfl)
  refine⟨[],[],_,_,_,ζ,az,(),aa,?_,?_,ζ⟩
  ·(show _=amY k s);unfold amY;first|(rw [e];rfl)|rfl
  ·rfl
 ·have e:bH k s=(s+12-1) / 12:=(aqN w1).trans (by rw [show (!(ik s 0 (16*12)))=false from w7];rfl)
  refine⟨[],[],_,_,_,ζ,az,(),aa,?_,?_,ζ⟩
  ·(show _=amY k s);unfold amY;first|(rw [e];rfl)|rfl
  ·rfl
 ·have e:bH k s= -1:=(aqq w8 w9).trans (by rw [show (!(ik s 0 (16*128)))=true from gO];rfl)
  refine⟨[],[],_,_,_,ζ,az,(),aa,?_,?_,ζ⟩
  ·(show _=amY k s);unfold amY;first|(rw [e];rfl)|rfl
  ·rfl
 ·have e:bH k s=(s+128-1) / 128:=(aqq w8 w9).trans (by rw [show (!(ik s 0 (16*128)))=false from qK];rfl)
  refine⟨[],[],_,_,_,ζ,az,(),aa,?_,?_,ζ⟩
  ·(show _=amY k s);unfold amY;first|(rw [e];rfl)|rfl
  ·rfl
 ·have e:bH k s= -1:=arj w8 kg
  refine⟨[],[],_,_,_,ζ,az,(),aa,?_,?_,ζ⟩
  ·(show _=amY k s);unfold amY;first|(rw [e];rfl)|rfl
  ·rfl
def anS (n:fu):Prop:=True
def anQ (n:fu):AV:=.s (.q (cy n))
def apP (n:fu):List AV:=[]
def aon:cn where
 A:=[.a [.int,.int,.int,.int,.int,.int,.int,.int,.int,.int]]
 B:=[]
 pre:=λx b=>anS x
 r:=λx b _=>anQ x
 o:=λx b _=>apP x
theorem aqe:Has Tryz.prog 27 aon:=by
 refine Has.zB zT zF zF (l:=[(53,anD),(32,cr),(54,gM),(55,cB),(56,bG)]) ⟨aoV,fM,tJ,jt,eO,aa⟩ Tryz.func27 ?_
 rintro⟨(n1:Int),(n2:Int),(n3:Int),(n4:Int),(n5:Int),(n6:Int),(n7:Int),(n8:Int),(n9:Int),(cw:Int)⟩ _ (hp:anS (n1,n2,n3,n4,n5,n6,n7,n8,n9,cw))
 show vc _ _ _ _ (entry [.a [.int n1,.int n2,.int n3,.int n4,.int n5,.int n6,.int n7,.int n8,.int n9,.int cw]] []) _
 have hbd:=xz n1 n3
 refine⟨⟨tv3,aa⟩,λx1 w2=>⟨λw3=>⟨Sq3,Sq13,ζ,Sq13,Sq14,ζ,Sq14,Sq15,ζ,aa,λw4=>⟨[.s 15,.s 1],Sq16,ζ,[.s 15,.s 16,.b 1001],Sq17,ζ,[.s 15,.s 4],Sq18,ζ,[.s 15,.s 17,.s 18],Sq19,ζ,⟨tv4,aa⟩,?_,λx5 w6=>⟨[.s 15,.s 19],Sq20,ζ,Sq20,Sq21,ζ,aa,λw7=>⟨[.s 21,.s 1],Sq22,ζ,[.s 21,.s 22],Sq23,ζ,[.s 21,.s 23,.b 1001],Sq24,ζ,[.s 21,.s 3],Sq25,ζ,[.s 21,.s 24,.s 25],Sq26,ζ,[.s 21,.s 26],Sq27,ζ,Sq27,Sq28,ζ,aa,λw8=>⟨[.s 28,.s 1],Sq29,ζ,[.s 28,.s 29],Sq30,ζ,[.s 28,.s 30,.b 1001],Sq31,ζ,[.s 28,.s 3],Sq32,ζ,[.s 28,.s 32],Sq33,ζ,⟨tv2,aa⟩,?_,λx9 dy=>⟨[.s 28,.s 31,.s 33],Sq34,ζ,[.s 28,.s 34],Sq35,ζ,Sq35,Sq36,ζ,aa,λkA=>⟨[.s 36,.s 1],Sq37,ζ,[.s 36,.s 37],Sq38,ζ,[.s 36,.s 38,.b 1001],Sq39,ζ,[.s 36,.s 39],Sq40,ζ,⟨⟨tv6,aa⟩,aa⟩,?_,λx12 iU=>⟨[.s 36,.s 40],Sq41,ζ,Sq41,Sq42,ζ,aa,λgO=>⟨[.s 42,.s 1],Sq43,ζ,[.s 42,.s 43],Sq44,ζ,[.s 42,.s 44,.b 1001],Sq45,ζ,[.s 42,.s 45],Sq46,ζ,⟨⟨tv6,aa⟩,aa⟩,?_,λky kg=>⟨[.s 42,.s 46],Sq47,ζ,aa,λxh=>⟨Sq47,Sq48,ζ,Sq47,Sq49,ζ,Sq47,Sq50,ζ,Sq47,Sq51,ζ,Sq47,Sq52,ζ,Sq47,Sq53,ζ,Sq47,Sq54,ζ,Sq47,Sq55,ζ,[.s 42,.s 47,.s 55],Sq56,ζ,[.s 42,.s 56],Sq57,ζ,Sq57,Sq2,ζ,?_⟩,λrS=>⟨[.s 47,.s 1],Sq48,ζ,[.s 47,.s 48],Sq49,ζ,[.s 47,.s 49],Sq50,ζ,[.s 47,.s 50,.b 1001],Sq51,ζ,[.s 47,.s 1],Sq52,ζ,[.s 47,.s 52],Sq53,ζ,[.s 47,.s 53,.b 1001],Sq54,ζ,[.s 47,.s 51,.s 54],Sq55,ζ,[.s 42,.s 47,.s 55],Sq56,ζ,[.s 42,.s 56],Sq57,ζ,Sq57,Sq2,ζ,?_⟩⟩⟩,λoL=>⟨Sq42,Sq43,ζ,Sq42,Sq44,ζ,Sq42,Sq45,ζ,Sq42,Sq46,ζ,Sq42,Sq47,ζ,Sq47,Sq48,ζ,Sq47,Sq49,ζ,Sq47,Sq50,ζ,Sq47,Sq51,ζ,Sq47,Sq52,ζ,Sq47,Sq53,ζ,Sq47,Sq54,ζ,Sq47,Sq55,ζ,Sq42,Sq56,ζ,[.s 42,.s 56],Sq57,ζ,Sq57,Sq2,ζ,?_⟩⟩⟩,λuI=>⟨Sq36,Sq37,ζ,Sq36,Sq38,ζ,Sq36,Sq39,ζ,Sq36,Sq40,ζ,[.s 36,.s 40],Sq41,ζ,Sq41,Sq42,ζ,Sq42,Sq43,ζ,Sq42,Sq44,ζ,Sq42,Sq45,ζ,Sq42,Sq46,ζ,Sq42,Sq47,ζ,Sq47,Sq48,ζ,Sq47,Sq49,ζ,Sq47,Sq50,ζ,Sq47,Sq51,ζ,Sq47,Sq52,ζ,Sq47,Sq53,ζ,Sq47,Sq54,ζ,Sq47,Sq55,ζ,Sq42,Sq56,ζ,[.s 42,.s 56],Sq57,ζ,Sq57,Sq2,ζ,?_⟩⟩⟩,λA4=>⟨Sq28,Sq29,ζ,Sq28,Sq30,ζ,Sq28,Sq31,ζ,Sq28,Sq32,ζ,Sq28,Sq33,ζ,Sq28,Sq34,ζ,[.s 28,.s 34],Sq35,ζ,Sq35,Sq36,ζ,Sq36,Sq37,ζ,Sq36,Sq38,ζ,Sq36,Sq39,ζ,Sq36,Sq40,ζ,[.s 36,.s 40],Sq41,ζ,Sq41,Sq42,ζ,Sq42,Sq43,ζ,Sq42,Sq44,ζ,Sq42,Sq45,ζ,Sq42,Sq46,ζ,Sq42,Sq47,ζ,Sq47,Sq48,ζ,Sq47,Sq49,ζ,Sq47,Sq50,ζ,Sq47,Sq51,ζ,Sq47,Sq52,ζ,Sq47,Sq53,ζ,Sq47,Sq54,ζ,Sq47,Sq55,ζ,Sq42,Sq56,ζ,[.s 42,.s 56],Sq57,ζ,Sq57,Sq2,ζ,?_⟩⟩,λA3=>⟨Sq21,Sq22,ζ,Sq21,Sq23,ζ,Sq21,Sq24,ζ,Sq21,Sq25,ζ,Sq21,Sq26,ζ,[.s 21,.s 26],Sq27,ζ,Sq27,Sq28,ζ,Sq28,Sq29,ζ,Sq28,Sq30,ζ,Sq28,Sq31,ζ,Sq28,Sq32,ζ,Sq28,Sq33,ζ,Sq28,Sq34,ζ,[.s 28,.s 34],Sq35,ζ,Sq35,Sq36,ζ,Sq36,Sq37,ζ,Sq36,Sq38,ζ,Sq36,Sq39,ζ,Sq36,Sq40,ζ,[.s 36,.s 40],Sq41,ζ,Sq41,Sq42,ζ,Sq42,Sq43,ζ,Sq42,Sq44,ζ,Sq42,Sq45,ζ,Sq42,Sq46,ζ,Sq42,Sq47,ζ,Sq47,Sq48,ζ,Sq47,Sq49,ζ,Sq47,Sq50,ζ,Sq47,Sq51,ζ,Sq47,Sq52,ζ,Sq47,Sq53,ζ,Sq47,Sq54,ζ,Sq47,Sq55,ζ,Sq42,Sq56,ζ,[.s 42,.s 56],Sq57,ζ,Sq57,Sq2,ζ,?_⟩⟩⟩,λxK=>⟨Sq15,Sq16,ζ,Sq15,Sq17,ζ,Sq15,Sq18,ζ,Sq15,Sq19,ζ,[.s 15,.s 19],Sq20,ζ,Sq20,Sq21,ζ,Sq21,Sq22,ζ,Sq21,Sq23,ζ,Sq21,Sq24,ζ,Sq21,Sq25,ζ,Sq21,Sq26,ζ,[.s 21,.s 26],Sq27,ζ,Sq27,Sq28,ζ,Sq28,Sq29,ζ,Sq28,Sq30,ζ,Sq28,Sq31,ζ,Sq28,Sq32,ζ,Sq28,Sq33,ζ,Sq28,Sq34,ζ,[.s 28,.s 34],Sq35,ζ,Sq35,Sq36,ζ,Sq36,Sq37,ζ,Sq36,Sq38,ζ,Sq36,Sq39,ζ,Sq36,Sq40,ζ,[.s 36,.s 40],Sq41,ζ,Sq41,Sq42,ζ,Sq42,Sq43,ζ,Sq42,Sq44,ζ,Sq42,Sq45,ζ,Sq42,Sq46,ζ,Sq42,Sq47,ζ,Sq47,Sq48,ζ,Sq47,Sq49,ζ,Sq47,Sq50,ζ,Sq47,Sq51,ζ,Sq47,Sq52,ζ,Sq47,Sq53,ζ,Sq47,Sq54,ζ,Sq47,Sq55,ζ,Sq42,Sq56,ζ,[.s 42,.s 56],Sq57,ζ,Sq57,Sq2,ζ,?_⟩⟩,λrR=>⟨Sq3,Sq13,ζ,Sq13,Sq14,ζ,Sq14,Sq15,ζ,aa,λw25=>⟨[.s 15,.s 1],Sq16,ζ,[.s 15,.s 16,.b 1001],Sq17,ζ,[.s 15,.s 4],Sq18,ζ,[.s 15,.s 17,.s 18],Sq19,ζ,⟨tv4,aa⟩,?_,λx26 w27=>⟨[.s 15,.s 19],Sq20,ζ,Sq20,Sq21,ζ,aa,λw28=>⟨[.s 21,.s 1],Sq22,ζ,[.s 21,.s 22],Sq23,ζ,[.s 21,.s 23,.b 1001],Sq24,ζ,[.s 21,.s 3],Sq25,ζ,[.s 21,.s 24,.s 25],Sq26,ζ,[.s 21,.s 26],Sq27,ζ,Sq27,Sq28,ζ,aa,λw29=>⟨[.s 28,.s 1],Sq29,ζ,[.s 28,.s 29],Sq30,ζ,[.s 28,.s 30,.b 1001],Sq31,ζ,[.s 28,.s 3],Sq32,ζ,[.s 28,.s 32],Sq33,ζ,⟨tv2,aa⟩,?_,λx30 w31=>⟨[.s 28,.s 31,.s 33],Sq34,ζ,[.s 28,.s 34],Sq35,ζ,Sq35,Sq36,ζ,aa,λw32=>⟨[.s 36,.s 1],Sq37,ζ,[.s 36,.s 37],Sq38,ζ,[.s 36,.s 38,.b 1001],Sq39,ζ,[.s 36,.s 39],Sq40,ζ,⟨⟨tv6,aa⟩,aa⟩,?_,λx33 w34=>⟨[.s 36,.s 40],Sq41,ζ,Sq41,Sq42,ζ,aa,λw35=>⟨[.s 42,.s 1],Sq43,ζ,[.s 42,.s 43],Sq44,ζ,[.s 42,.s 44,.b 1001],Sq45,ζ,[.s 42,.s 45],Sq46,ζ,⟨⟨tv6,aa⟩,aa⟩,?_,λx36 w37=>⟨[.s 42,.s 46],Sq47,ζ,aa,λw38=>⟨Sq47,Sq48,ζ,Sq47,Sq49,ζ,Sq47,Sq50,ζ,Sq47,Sq51,ζ,Sq47,Sq52,ζ,Sq47,Sq53,ζ,Sq47,Sq54,ζ,Sq47,Sq55,ζ,[.s 42,.s 47,.s 55],Sq56,ζ,[.s 42,.s 56],Sq57,ζ,Sq57,Sq2,ζ,?_⟩,λw39=>⟨[.s 47,.s 1],Sq48,ζ,[.s 47,.s 48],Sq49,ζ,[.s 47,.s 49],Sq50,ζ,[.s 47,.s 50,.b 1001],Sq51,ζ,[.s 47,.s 1],Sq52,ζ,[.s 47,.s 52],Sq53,ζ,[.s 47,.s 53,.b 1001],Sq54,ζ,[.s 47,.s 51,.s 54],Sq55,ζ,[.s 42,.s 47,.s 55],Sq56,ζ,[.s 42,.s 56],Sq57,ζ,Sq57,Sq2,ζ,?_⟩⟩⟩,λw40=>⟨Sq42,Sq43,ζ,Sq42,Sq44,ζ,Sq42,Sq45,ζ,Sq42,Sq46,ζ,Sq42,Sq47,ζ,Sq47,Sq48,ζ,Sq47,Sq49,ζ,Sq47,Sq50,ζ,Sq47,Sq51,ζ,Sq47,Sq52,ζ,Sq47,Sq53,ζ,Sq47,Sq54,ζ,Sq47,Sq55,ζ,Sq42,Sq56,ζ,[.s 42,.s 56],Sq57,ζ,Sq57,Sq2,ζ,?_⟩⟩⟩,λw41=>⟨Sq36,Sq37,ζ,Sq36,Sq38,ζ,Sq36,Sq39,ζ,Sq36,Sq40,ζ,[.s 36,.s 40],Sq41,ζ,Sq41,Sq42,ζ,Sq42,Sq43,ζ,Sq42,Sq44,ζ,Sq42,Sq45,ζ,Sq42,Sq46,ζ,Sq42,Sq47,ζ,Sq47,Sq48,ζ,Sq47,Sq49,ζ,Sq47,Sq50,ζ,Sq47,Sq51,ζ,Sq47,Sq52,ζ,Sq47,Sq53,ζ,Sq47,Sq54,ζ,Sq47,Sq55,ζ,Sq42,Sq56,ζ,[.s 42,.s 56],Sq57,ζ,Sq57,Sq2,ζ,?_⟩⟩⟩,λw42=>⟨Sq28,Sq29,ζ,Sq28,Sq30,ζ,Sq28,Sq31,ζ,Sq28,Sq32,ζ,Sq28,Sq33,ζ,Sq28,Sq34,ζ,[.s 28,.s 34],Sq35,ζ,Sq35,Sq36,ζ,Sq36,Sq37,ζ,Sq36,Sq38,ζ,Sq36,Sq39,ζ,Sq36,Sq40,ζ,[.s 36,.s 40],Sq41,ζ,Sq41,Sq42,ζ,Sq42,Sq43,ζ,Sq42,Sq44,ζ,Sq42,Sq45,ζ,Sq42,Sq46,ζ,Sq42,Sq47,ζ,Sq47,Sq48,ζ,Sq47,Sq49,ζ,Sq47,Sq50,ζ,Sq47,Sq51,ζ,Sq47,Sq52,ζ,Sq47,Sq53,ζ,Sq47,Sq54,ζ,Sq47,Sq55,ζ,Sq42,Sq56,ζ,[.s 42,.s 56],Sq57,ζ,Sq57,Sq2,ζ,?_⟩⟩,λw43=>⟨Sq21,Sq22,ζ,Sq21,Sq23,ζ,Sq21,Sq24,ζ,Sq21,Sq25,ζ,Sq21,Sq26,ζ,[.s 21,.s 26],Sq27,ζ,Sq27,Sq28,ζ,Sq28,Sq29,ζ,Sq28,Sq30,ζ,Sq28,Sq31,ζ,Sq28,Sq32,ζ,Sq28,Sq33,ζ,Sq28,Sq34,ζ,[.s 28,.s 34],Sq35,ζ,Sq35,Sq36,ζ,Sq36,Sq37,ζ,Sq36,Sq38,ζ,Sq36,Sq39,ζ,Sq36,Sq40,ζ,[.s 36,.s 40],Sq41,ζ,Sq41,Sq42,ζ,Sq42,Sq43,ζ,Sq42,Sq44,ζ,Sq42,Sq45,ζ,Sq42,Sq46,ζ,Sq42,Sq47,ζ,Sq47,Sq48,ζ,Sq47,Sq49,ζ,Sq47,Sq50,ζ,Sq47,Sq51,ζ,Sq47,Sq52,ζ,Sq47,Sq53,ζ,Sq47,Sq54,ζ,Sq47,Sq55,ζ,Sq42,Sq56,ζ,[.s 42,.s 56],Sq57,ζ,Sq57,Sq2,ζ,?_⟩⟩⟩,λw44=>⟨Sq15,Sq16,ζ,Sq15,Sq17,ζ,Sq15,Sq18,ζ,Sq15,Sq19,ζ,[.s 15,.s 19],Sq20,ζ,Sq20,Sq21,ζ,Sq21,Sq22,ζ,Sq21,Sq23,ζ,Sq21,Sq24,ζ,Sq21,Sq25,ζ,Sq21,Sq26,ζ,[.s 21,.s 26],Sq27,ζ,Sq27,Sq28,ζ,Sq28,Sq29,ζ,Sq28,Sq30,ζ,Sq28,Sq31,ζ,Sq28,Sq32,ζ,Sq28,Sq33,ζ,Sq28,Sq34,ζ,[.s 28,.s 34],Sq35,ζ,Sq35,Sq36,ζ,Sq36,Sq37,ζ,Sq36,Sq38,ζ,Sq36,Sq39,ζ,Sq36,Sq40,ζ,[.s 36,.s 40],Sq41,ζ,Sq41,Sq42,ζ,Sq42,Sq43,ζ,Sq42,Sq44,ζ,Sq42,Sq45,ζ,Sq42,Sq46,ζ,Sq42,Sq47,ζ,Sq47,Sq48,ζ,Sq47,Sq49,ζ,Sq47,Sq50,ζ,Sq47,Sq51,ζ,Sq47,Sq52,ζ,Sq47,Sq53,ζ,Sq47,Sq54,ζ,Sq47,Sq55,ζ,Sq42,Sq56,ζ,[.s 42,.s 56],Sq57,ζ,Sq57,Sq2,ζ,?_⟩⟩⟩⟩
 all_goals first|refine aw ?_|refine ax ?_|exact a8|(dsimp only [anD,anp,cr,df,gM,iv,cB,cR,bG,cb];omega)|exact a7|skip
 all_goals
  refine⟨[],[],_,_,_,ζ,az,(),aa,?_,?_,ζ⟩
  ·show AV.q _=anQ (n1,n2,n3,n4,n5,n6,n7,n8,n9,cw);unfold anQ;refine congrArg AV.q ?_;simp_all [cy]
  ·rfl
def anr (l:List Int):Prop:=(∃a b,l=[a,b])∨∃a b c,l=[a,b,c]
def apb (l:List Int):AV:=.s (.xs 0 1 0 l.length)
def apA (l:List Int):List AV:=[.rs ab (l.map cj)]
def anx:cn where
 A:=[.s (.vz ag)]
 B:=[]
 pre:=λx b=>anr x
 r:=λx b _=>apb x
 o:=λx b _=>apA x
 nf:=1
theorem aoN:Has Tryz.prog 84 anx:=by
 refine Has.zB zT zF zF (l:=[(130,gn)]) ⟨CR,aa⟩ Tryz.func84 ?_
 rintro (l:List Int) _ (hp:anr l)
 show vc _ _ _ _ (entry [.s (.vz ag l)] []) _
 let g':=(1005,1016)
 rcases (show (∃a b,l=[a,b])∨∃a b c,l=[a,b,c] from hp) with ⟨a,b,rfl⟩ |⟨a,b,c,rfl⟩
 ·refine lW (l:=[(130,gn)]) (ex:=zT) (wr:=zF) (pt:=zF) ⟨CR,aa⟩ [.s 0] (λn:Nat=>match n with |0=>[(.s 3,.s (.v (.slice none 0 0))),(.s 6,.s (.vz ag [a,b])),(.s 7,.int 2),(.s 8,.int 0)] |n+1=>[(.s 3,.s (.xs 1005 1 0 (n+1))),(.s 6,.s (.vz ag [a,b])),(.s 7,.int 2),(.s 8,.int ((n+1:Nat):Int)),(.b 1005,.rs ab (([cj a,cj b]).take (n+1)))]) (λn=>n≤2) (λn=>2-n) 0 [] (ZA7 _) dM ?_
  rintro n (hn:n≤2)
  have h5:n=0∨n=1∨n=2:=by omega
  rcases h5 with rfl |rfl |rfl
  ·refine⟨λw1=>⟨⟨?_,?_⟩,⟨tv2,aa⟩,λx2 w3=>⟨aa,⟨⟨?_,?_⟩,?_,?_⟩,⟨?_,?_⟩,?_⟩⟩,λw4=>?_⟩
   all_goals first|(exfalso;simp only [decide_eq_true_eq,decide_eq_false_iff_not] at *;omega)|refine aw ?_|refine ax ?_|exact a8|(dsimp only [gn,fG];omega)|exact a7|(show (0:Nat)+1≤1048576;omega)|skip
   ·refine⟨(1),[g'],?_,?_,?_⟩
    rotate_right
    ·exact bV
    ·show (1:Nat)≤2;omega
    ·show 2-1<2-0;omega
  ·refine⟨λw1=>⟨⟨?_,?_⟩,⟨tv2,aa⟩,λx2 w3=>⟨aa,⟨⟨?_,?_⟩,?_,?_⟩,⟨?_,?_⟩,?_⟩⟩,λw4=>?_⟩
   all_goals first|(exfalso;simp only [decide_eq_true_eq,decide_eq_false_iff_not] at *;omega)|refine aw ?_|refine ax ?_|exact a8|(dsimp only [gn,fG];omega)|exact a7|(show (1:Nat)+1≤1048576;omega)|skip
   ·refine⟨(2),[g'],?_,?_,?_⟩
    rotate_right
    ·exact bV
    ·show (2:Nat)≤2;omega
    ·show 2-2<2-1;omega
  ·refine⟨λw1=>⟨⟨?_,?_⟩,⟨tv2,aa⟩,λx2 w3=>⟨aa,⟨⟨?_,?_⟩,?_,?_⟩,⟨?_,?_⟩,?_⟩⟩,λw4=>?_⟩
   all_goals first|(exfalso;simp only [decide_eq_true_eq,decide_eq_false_iff_not] at *;omega)|refine aw ?_|refine ax ?_|exact a8|(dsimp only [gn,fG];omega)|exact a7|skip
   refine⟨[1005],[],_,_,_,ζ,cf,(),aa,ζ,ζ,ζ⟩
 ·refine lW (l:=[(130,gn)]) (ex:=zT) (wr:=zF) (pt:=zF) ⟨CR,aa⟩ [.s 0] (λn:Nat=>match n with |0=>[(.s 3,.s (.v (.slice none 0 0))),(.s 6,.s (.vz ag [a,b,c])),(.s 7,.int 3),(.s 8,.int 0)] |n+1=>[(.s 3,.s (.xs 1005 1 0 (n+1))),(.s 6,.s (.vz ag [a,b,c])),(.s 7,.int 3),(.s 8,.int ((n+1:Nat):Int)),(.b 1005,.rs ab (([cj a,cj b,cj c]).take (n+1)))]) (λn=>n≤3) (λn=>3-n) 0 [] (ZA7 _) dM ?_
  rintro n (hn:n≤3)
  have h5:n=0∨n=1∨n=2∨n=3:=by omega
  rcases h5 with rfl |rfl |rfl |rfl
  ·refine⟨λw1=>⟨⟨?_,?_⟩,⟨tv2,aa⟩,λx2 w3=>⟨aa,⟨⟨?_,?_⟩,?_,?_⟩,⟨?_,?_⟩,?_⟩⟩,λw4=>?_⟩
   all_goals first|(exfalso;simp only [decide_eq_true_eq,decide_eq_false_iff_not] at *;omega)|refine aw ?_|refine ax ?_|exact a8|(dsimp only [gn,fG];omega)|exact a7|(show (0:Nat)+1≤1048576;omega)|skip
   ·refine⟨(1),[g'],?_,?_,?_⟩
    rotate_right
    ·exact bV
    ·show (1:Nat)≤3;omega
    ·show 3-1<3-0;omega
  ·refine⟨λw1=>⟨⟨?_,?_⟩,⟨tv2,aa⟩,λx2 w3=>⟨aa,⟨⟨?_,?_⟩,?_,?_⟩,⟨?_,?_⟩,?_⟩⟩,λw4=>?_⟩
   all_goals first|(exfalso;simp only [decide_eq_true_eq,decide_eq_false_iff_not] at *;omega)|refine aw ?_|refine ax ?_|exact a8|(dsimp only [gn,fG];omega)|exact a7|(show (1:Nat)+1≤1048576;omega)|skip
   ·refine⟨(2),[g'],?_,?_,?_⟩
    rotate_right
    ·exact bV
    ·show (2:Nat)≤3;omega
    ·show 3-2<3-1;omega
  ·refine⟨λw1=>⟨⟨?_,?_⟩,⟨tv2,aa⟩,λx2 w3=>⟨aa,⟨⟨?_,?_⟩,?_,?_⟩,⟨?_,?_⟩,?_⟩⟩,λw4=>?_⟩
   all_goals first|(exfalso;simp only [decide_eq_true_eq,decide_eq_false_iff_not] at *;omega)|refine aw ?_|refine ax ?_|exact a8|(dsimp only [gn,fG];omega)|exact a7|(show (2:Nat)+1≤1048576;omega)|skip
   ·refine⟨(3),[g'],?_,?_,?_⟩
    rotate_right
    ·exact bV
    ·show (3:Nat)≤3;omega
    ·show 3-3<3-2;omega
  ·refine⟨λw1=>⟨⟨?_,?_⟩,⟨tv2,aa⟩,λx2 w3=>⟨aa,⟨⟨?_,?_⟩,?_,?_⟩,⟨?_,?_⟩,?_⟩⟩,λw4=>?_⟩
   all_goals first|(exfalso;simp only [decide_eq_true_eq,decide_eq_false_iff_not] at *;omega)|refine aw ?_|refine ax ?_|exact a8|(dsimp only [gn,fG];omega)|exact a7|skip
   refine⟨[1005],[],_,_,_,ζ,cf,(),aa,ζ,ζ,ζ⟩
def ano (t:bf):Prop:=True
def aou (t:bf):AV:=.s (.xs 0 1 0 3)
def aoD (t:bf):List AV:=[.rs ab [bc (t.1,t.2.1,t.2.2.1,t.2.2.2.1,t.2.2.2.2.1),cj t.2.2.2.2.2.1,cj t.2.2.2.2.2.2]]
def anC:cn where
 A:=[.a [.int,.int,.int,.int,.int,.int,.int]]
 B:=[]
 pre:=λx b=>ano x
 r:=λx b _=>aou x
 o:=λx b _=>aoD x
 nf:=1
theorem aoU:Has Tryz.prog 85 anC:=by
 refine Has.zB zT zF zF (l:=[(131,eR),(84,anx)]) ⟨wT,aoN,aa⟩ Tryz.func85 ?_
 rintro⟨(t1:Int),(t2:Int),(t3:Int),(t4:Int),(t5:Int),(t6:Int),(t7:Int)⟩ _ (hp:ano (t1,t2,t3,t4,t5,t6,t7))
 show vc _ _ _ _ (entry [.a [.int t1,.int t2,.int t3,.int t4,.int t5,.int t6,.int t7]] []) _
 refine⟨Sq1,Sq3,ζ,[.s 3,.b 1001],Sq4,ζ,Sq4,Sq5,ζ,⟨⟨tv6,aa⟩,aa⟩,?_,λx1 w2=>⟨[.s 5,.b 1006],[.s 6,.b 1006],ζ,aa,Sq1,Sq7,ζ,[.s 7,.b 1001],Sq8,ζ,Sq1,Sq9,ζ,[.s 9,.b 1001],Sq10,ζ,[.s 8,.s 10,.b 1011],[.s 11,.b 1011],ζ,aa,[.s 11,.b 1011,.b 130000],[.s 12,.b 130000],ζ,⟨⟨⟨?_,?_⟩,aa⟩,?_⟩,?_,λx3 w4=>⟨[.s 6,.s 12,.b 1006,.b 130000,.b 1013],[.s 13,.b 1013,.b 1006],ζ,⟨⟨?_,?_⟩,?_,?_⟩,Sq13,Sq2,ζ,?_⟩⟩⟩
 all_goals first|refine aw ?_|refine ax ?_|exact a8|(dsimp only [eR,eG,anx,anr];omega)|exact a7|exact .inl ⟨_,_,rfl⟩|(show 1+2≤1048576;decide)|skip
 ·refine⟨[1013],[],_,_,_,ζ,cf,(),aa,ζ,ζ,ζ⟩
end GL
namespace GL
open Go.RowKit
theorem aos {T e:TypeId}{B b:Nat}{p:Value}{bs:List Value}{W W':World}(h:Lib.BuilderAtF T e B b p bs W) (hb:Below W.heap.size W W'):Lib.BuilderAtF T e B b p bs W':=by
 have bU:=h.lt
 obtain⟨hB,v,hv,oa,fA⟩:=h
 exact⟨hB,v,(hb.block b bU).trans hv,oa.kept (row:=none) ⟨hb.os,hb.tape,hb.output,hb.size,λk hk _=>hb.block k hk⟩ (Classical.em _),fA⟩
theorem apT {T e:TypeId}{B b:Nat}{bs:List Value}{W W':World}(h:Lib.IsBuilderF T e B b bs W) (hb:Below W.heap.size W W'):Lib.IsBuilderF T e B b bs W':=
 h.elim (λx=>.inl (aos x hb)) (λx=>.inr (aos x hb))
def aqm:Go.Shelf.Ren:=⟨λn=>match n with |167=>127 |170=>128 |n=>Tryz.D1.f n,Tryz.D1.t,Tryz.D1.g⟩
theorem arn:Go.Proofs.Lays.n167 Tryz.prog aqm:= { Tryz.ZP with
 f167:=Tryz.func127.trans (congrArg some (by kernel_rfl))
 f240:=Tryz.ZP.f240.trans (congrArg some (by kernel_rfl))
 f276:=Tryz.ZP.f276.trans (congrArg some (by kernel_rfl))
 t5:=Tryz.underlying5
 a5:=Tryz.isAgg5
 z5:=Tryz.sizeOf5
 v5:=Tryz.zeroValue5 }
theorem aq9:Go.Proofs.Lays.n170 Tryz.prog aqm:= { Tryz.ZP with
 f170:=Tryz.func128.trans (congrArg some (by kernel_rfl)) }
theorem arl:Builder.Extra Tryz.prog aqm:= { Tryz.ry with }
def fpR:List ByteArray→List UInt8→List UInt8×Bool
 |[],out=>(out,true)
 |x::l,out=>if ((out++lb (bX x.size)++[58]++lb x).length:Int)>2048 then ([],false) else fpR l (out++lb (bX x.size)++[58]++lb x)
theorem aqT:∀(l:List ByteArray) (out:ByteArray),fpR l (lb out)=(lb (dB l out).1,(dB l out).2)
 |[],_=>rfl
 |x::l,out=>by
  have dj:((out++bX x.size++⟨#[58]⟩++x).size:Int)=((lb out++lb (bX x.size)++[58]++lb x).length:Int):=by
   rw [fo];simp only [wL]
  have hlb:lb (out++bX x.size++⟨#[58]⟩++x)=lb out++lb (bX x.size)++[58]++lb x:=by simp only [wL]
  have FL:x.size≤(out++bX x.size++⟨#[58]⟩++x).size:=by simp only [ZB2];omega
  unfold fpR
  cases h2:decide (((out++bX x.size++⟨#[58]⟩++x).size:Int)>2048) with
  |true=>rw [MZ h2,if_pos (by rw [←dj];exact aJ h2)]
  |false=>
   have h3:=aA h2
   rw [MY (decide_eq_false (by omega)) h2,if_neg (by rw [←dj];exact h3),←hlb]
   exact aqT l _
theorem aqt (W:World) (v:Value) (L:List ByteArray) (dj:∀x∈L,x.size≤1000000) (hL:(L=[]∧∃p cap,v= .slice p 0 cap)∨∃b o cap,v= .slice (some ⟨b,o,none⟩) L.length cap∧b<W.heap.size∧∀k (h:k<L.length),W.cell? ⟨b,o+k,none⟩=some (.string L[k])) (h60:L.length≤60)
   (hIT:∀(n:Nat) w,n≤1000000→Below W.heap.size W w→Calls Tryz.prog 126 #[.int .i64 n] w λe w'=>e= .returned (.string (bX n))∧Below w.heap.size w w'):
   Calls Tryz.prog 83 #[v] W λe w'=>e= .returned (.tuple #[.string ⟨(fpR L []).1.toArray⟩,.bool (fpR L []).2])∧Below W.heap.size W w':=by
 have hbw:Lib.IsBuilderF 147 5 W.heap.size W.heap.size (Lib.byteCells []) (W.alloc (.cells #[.pointer none,.slice none 0 0] 147)):=Lib.IsBuilderF.of (Lib.fresh_isBuilder 147 5 W)
 have amr:Below W.heap.size W (W.alloc (.cells #[.pointer none,.slice none 0 0] 147)):=(Below.refl _ _).alloc (ZB5 _) _
 rcases hL with ⟨hL,p,cap,rfl⟩ |⟨amS,amT,cap,rfl,hvb,agU⟩
 ·subst hL
  go_enter Tryz.func83,Tryz.ntmps83
  go_wp2
  refine wp_loop_rounds 1 ?_
  rw [rounds_succ]
  go_wp2_with (go_at_call 129;refine (Any.Builder_String_any_f (ρ:=Tryz.D1) { Tryz.ZP with } Tryz.ry W.heap.size W.heap.size [] _ hbw amr.size).mono ?_)
  rintro e w4 ⟨rfl,_,b4⟩
  go_wp2
  go_ret2
  exact⟨rfl,amr.trans b4⟩
 ·go_enter Tryz.func83,Tryz.ntmps83
  go_wp2
  go_loopw [12] (λi wr=>∃(k:Nat) (out:List UInt8),k≤L.length∧i= .int .i64 k∧Lib.IsBuilderF 147 5 W.heap.size W.heap.size (Lib.byteCells out) wr∧Below W.heap.size W wr∧out.length≤2048∧fpR (L.drop k) out=fpR L []) (λi _=>L.length-(intOf i).toNat)
  case atStart=>exact⟨0,[],ZA7 _,rfl,hbw,amr,ZA7 _,rfl⟩
  case round=>
   obtain⟨k,out,hk,rfl,hb,hnx,ob,hg⟩:=hrel
   by_cases bU:k<L.length
   ·have d0:=(hnx.cell (p:=⟨amS,amT+k,none⟩) hvb).trans (agU k bU)
    have hxs:L[k].size≤1000000:=dj _ (List.getElem_mem bU)
    rw [List.drop_eq_getElem_cons bU,fpR] at hg
    generalize L[k]=x at *
    go_wp2_with (go_at_call 126;refine (hIT x.size _ hxs hnx).mono ?_)
    rintro e w3 ⟨rfl,b3⟩
    have hds:=db (n:=(x.size:Int)) (by omega)
    have n3:Below W.heap.size W w3:=hnx.trans (b3.mono hnx.size)
    go_wp2_with (go_at_call 125;refine (Any.Builder_WriteString_f (ρ:=Tryz.D1) { Tryz.ZP with } Tryz.ry W.heap.size W.heap.size (Lib.byteCells out) (bX x.size) _ (apT hb b3) (by rw [Lib.byteCells_length];omega) n3.size).mono ?_)
    rintro e w4 ⟨rfl,hb4,b4⟩
    have n4:Below W.heap.size W w4:=n3.trans b4
    have hb4:Lib.IsBuilderF 147 5 W.heap.size W.heap.size (Lib.byteCells (out++lb (bX x.size))) w4:=.inr (by have h:=hb4;rw [Lib.byteCells_append];exact h)
    go_wp2_with (go_at_call 127;refine (Any.Builder_WriteByte_k (ρ:=aqm) arn arl W.heap.size W.heap.size (Lib.byteCells (out++lb (bX x.size))) 58 _ hb4 (by rw [Lib.byteCells_length,ZA0,←fo];omega) n4.size).mono ?_)
    rintro e w5 ⟨rfl,hb5,b5,_⟩
    have n5:Below W.heap.size W w5:=n4.trans b5
    have hb5:Lib.IsBuilderF 147 5 W.heap.size W.heap.size (Lib.byteCells (out++lb (bX x.size)++[58])) w5:=.inr (by have h:=hb5;rw [Lib.byteCells_append];exact h)
    go_wp2_with (go_at_call 125;refine (Any.Builder_WriteString_f (ρ:=Tryz.D1) { Tryz.ZP with } Tryz.ry W.heap.size W.heap.size (Lib.byteCells (out++lb (bX x.size)++[58])) x _ hb5 (by rw [Lib.byteCells_length];simp only [ZA0,←fo,ZA1,ZA4];omega) n5.size).mono ?_)
    rintro e w6 ⟨rfl,hb6,b6⟩
    have n6:Below W.heap.size W w6:=n5.trans b6
    have hb6:Lib.IsBuilderF 147 5 W.heap.size W.heap.size (Lib.byteCells (out++lb (bX x.size)++[58]++lb x)) w6:=.inr (by have h:=hb6;rw [Lib.byteCells_append];exact h)
    go_wp2_with (go_at_call 128;refine (Any.Builder_Len_f (ρ:=aqm) aq9 W.heap.size W.heap.size _ _ hb6).mono ?_)
    rintro e w7 ⟨rfl,rfl⟩
    have hln:((out++lb (bX x.size)++[58]++lb x).length:Int)=out.length+((bX x.size).size+(x.size+1)):=by simp only [ZA0,←fo,ZA1,ZA4];omega
    rw [Lib.byteCells_length]
    by_cases ajA:((out++lb (bX x.size)++[58]++lb x).length:Int)>2048
    ·rw [if_pos ajA] at hg
     go_wp2
     go_ret2
     exact⟨by rw [←hg];rfl,n6⟩
    ·rw [if_neg ajA] at hg
     go_wp2
     refine⟨⟨k+1,_,bU,ζ,hb6,n6,by omega,hg⟩,?_⟩
     show L.length-((k:Int)+1).toNat<L.length-((k:Int)).toNat
     omega
   ·have hkk:k=L.length:=by omega
    subst hkk
    rw [ZB3 (ZB5 _),fpR] at hg
    go_wp2_with (go_at_call 129;refine (Any.Builder_String_any_f (ρ:=Tryz.D1) { Tryz.ZP with } Tryz.ry W.heap.size W.heap.size out _ hb hnx.size).mono ?_)
    rintro e w4 ⟨rfl,_,b4⟩
    go_wp2
    go_ret2
    exact⟨by rw [←hg];rfl,hnx.trans b4⟩
def aoe:cn:=X3 [.s (.vz ab)] (λl=>l.length≤60∧∀x∈l,x.size≤1000000) λl=>.t [.s (.str (cE l).1),.s (.q (cE l).2)]
theorem aqD (x:ByteArray):(⟨(lb x).toArray⟩:ByteArray)=x:=vx rfl
theorem api:Has Tryz.prog 83 aoe:=by
 refine Has.lib ⟨_,Tryz.func83,by rfl,by decide⟩ (λx=>⟨rfl,rfl⟩) λ(l:List ByteArray) (hp:l.length≤60∧∀x∈l,x.size≤1000000) W T β vs hT hN c6=>?_
 obtain⟨v,rfl⟩:∃v,vs=[v]:=by
  match vs,c6 with
  |[v],_=>exact⟨v,rfl⟩
  |[],h=>exact h.elim
  |_::_::_,h=>exact h.2.elim
 have hv:(SV.vz ab l).rel T β v:=c6.1
 have hIT:∀(n:Nat) w,n≤1000000→Below W.heap.size W w→Calls Tryz.prog 126 #[.int .i64 n] w λe w'=>e= .returned (.string (bX n))∧Below w.heap.size w w':=λn w hn hb=>by
  refine ((ahH.1 (n:Int) () ⟨by show (-9223372036854775808:Int)≤(n:Int);omega,by show (n:Int)≤(9223372036854775807:Int);omega⟩).lib (β:=β) (vs:=[.int .i64 n]) rfl hT hN ⟨rfl,trivial⟩ hb).mono ?_
  rintro e w' ⟨v,r,os,T',β',rfl,⟨z,_,rfl,_⟩,hv,hB,_⟩
  have hv:v= .string (ad4 n):=hv
  subst hv
  exact⟨by rw [abP (by omega)],hB⟩
 refine (aqt W v l hp.2 ?_ hp.1 hIT).mono ?_
 ·rcases hv with ⟨rfl,p,cap,rfl⟩ |⟨b,o,cap,cs,rfl,hlc,dF,hw⟩
  ·exact .inl ⟨rfl,p,cap,rfl⟩
  ·obtain⟨te,fr,hc⟩:=FA hT dF
   refine .inr ⟨b,o,cap,rfl,(ZF1.1 hc).1,λk hk=>?_⟩
   rw [rr hc]
   refine hw k _ ?_
   rw [I7,List.getElem?_map,ZB1 hk];rfl
 ·rintro e w' ⟨rfl,hB⟩
  have e1:cE l=dB l ⟨#[]⟩:=gE (decide_eq_true (by have:=hp.1;omega))
  have e2:fpR l []=(lb (cE l).1,(cE l).2):=by rw [e1];exact aqT l ⟨#[]⟩
  rw [e2,aqD]
  exact⟨_,rfl,hB,_,rfl,rfl,rfl,trivial⟩
