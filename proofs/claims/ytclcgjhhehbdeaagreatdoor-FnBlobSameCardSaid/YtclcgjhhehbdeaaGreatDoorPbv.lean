/- A drawn law returns true for every code (its row lists package variables, tied by the card): part 48. -/
import Derived.BigCall
import Derived.Lib.OthersKept
import Derived.RegionTactic
import Derived.Shelf.Strings.BuilderF
import Derived.WalkKit
import Derived.Test.YtclcgjhhehbdeaaGreatDoorPax
import Derived.Test.YtclcgjhhehbdeaaGreatDoorPbn
import Derived.Test.YtclcgjhhehbdeaaGreatDoorPbu
set_option maxHeartbeats 20000000
set_option maxRecDepth 100000
set_option linter.all false
namespace Go.Proofs.YtclcgjhhehbdeaaGreatDoor
namespace GL
open Go.RowKit
def bgR (R:Nat→ByteArray) (n:Nat):Nat→Nat→List UInt8→List UInt8×Bool
 |0,_,out=>(out,true)
 |f+1,k,out=>if ((k:Int)<(n:Int)-1∧¬((R k).size:Int)=128)∨(R k).toList.isEmpty=true then ([],false) else bgR R n f (k+1) (out++(R k).data.toList)
theorem anL {T e:TypeId}{B b:Nat}{p:Value}{bs:List Value}{W W':World}(h:Lib.BuilderAtF T e B b p bs W) (hb:Below W.heap.size W W'):Lib.BuilderAtF T e B b p bs W':=by
 have bU:=h.lt
 obtain⟨hB,v,hv,nX,fy⟩:=h
 exact⟨hB,v,(hb.block b bU).trans hv,nX.kept (row:=none) ⟨hb.os,hb.tape,hb.output,hb.size,fun k hk _=>hb.block k hk⟩ (Classical.em _),fy⟩
theorem aov {T e:TypeId}{B b:Nat}{bs:List Value}{W W':World}(h:Lib.IsBuilderF T e B b bs W) (hb:Below W.heap.size W W'):Lib.IsBuilderF T e B b bs W':=
 h.elim (fun x=>.inl (anL x hb)) (fun x=>.inr (anL x hb))
theorem ank (W:World) (A B:Obj):((W.alloc A).alloc B).heap[W.heap.size]?=some A∧W.heap.size<((W.alloc A).alloc B).heap.size:=by
 have h1:W.heap.size<(W.alloc A).heap.size:=by show _<(W.heap.push A).size;rw [Array.size_push];omega
 have h2:(W.alloc A).heap.size<((W.alloc A).alloc B).heap.size:=by show _<((W.alloc A).heap.push B).size;rw [Array.size_push];omega
 exact⟨(heap_alloc_old (W.alloc A) B h1).trans (heap_alloc_new W A),by omega⟩
theorem aoG (s0 s1 s2 amr ams amt amu amv t0 t1 t2 t3 t4 t5 t6:Value) (W:World) (ok:Bool) (L:List Pt) (R:Nat→ByteArray) (hR:∀k,(R k).size≤1000000) (hn:L.length≤16)
   (hTL:∀w,Below W.heap.size W w→Calls Tryz.prog 28 #[.agg #[s0,s1,s2,amr,ams,amt,amu,amv],.agg #[t0,t1,t2,t3,t4,t5,t6]] w fun e w'=>∃v,e= .returned (.tuple #[v,.bool ok])∧Below w.heap.size w w'∧
   ((L=[]∧∃p cap,v= .slice p 0 cap)∨∃b o cap,v= .slice (some ⟨b,o,none⟩) L.length cap∧b<w'.heap.size∧∀k (h:k<L.length),w'.cell? ⟨b,o+k*5,none⟩=some (.int .i64 L[k].1)∧w'.cell? ⟨b,o+k*5+1,none⟩=some (.int .i64 L[k].2.1)
         ∧w'.cell? ⟨b,o+k*5+2,none⟩=some (.int .i64 L[k].2.2.1)∧w'.cell? ⟨b,o+k*5+3,none⟩=some (.int .i64 L[k].2.2.2.1)∧w'.cell? ⟨b,o+k*5+4,none⟩=some (.int .i64 L[k].2.2.2.2)))
   (hRD:∀w b2 k (h:k<L.length),Below W.heap.size W w→W.heap.size≤b2→w.heap[b2]?=some (.cells #[s0,s1,s2,amr,ams,amt,amu,amv] 29 (0,0))→Calls Tryz.prog 32 #[.pointer (some ⟨b2,0,none⟩),.agg #[.int .i64 L[k].1,.int .i64 L[k].2.1,.int .i64 L[k].2.2.1,.int .i64 L[k].2.2.2.1,.int .i64 L[k].2.2.2.2]] w fun e w'=>(∃q,e= .returned (.tuple #[.string (R k),.bool q]))∧Below w.heap.size w w'):
  Calls Tryz.prog 14 #[.agg #[s0,s1,s2,amr,ams,amt,amu,amv],.agg #[t0,t1,t2,t3,t4,t5,t6]] W fun e w'=>e= .returned (.tuple #[.string ⟨(bif ok then bgR R L.length L.length 0 [] else ([],false)).1.toArray⟩,.bool (bif ok then bgR R L.length L.length 0 [] else ([],false)).2])∧Below W.heap.size W w':=by
 go_enter Tryz.func14,Tryz.ntmps14
 have b0:Below W.heap.size W (W.alloc (.cells #[s0,s1,s2,amr,ams,amt,amu,amv] 29)):=(Below.refl _ W).alloc (ZB5 _) _
 go_wp2_with (go_at_call 28;refine (hTL _ ?_).mono ?_)
 ·exact b0.alloc b0.size _
 rintro e w1 ⟨v,rfl,b1,hv⟩
 have b2:Below W.heap.size W w1:=(b0.alloc b0.size _).trans (b1.mono (b0.alloc b0.size _).size)
 cases ok with
 |false=>
  go_wp2
  go_ret2
  exact⟨rfl,b2⟩
 |true=>
  rcases hv with ⟨hL,p,cap,rfl⟩ |⟨amD,amE,cap,rfl,hvb,agM⟩
  ·have hbw:Lib.IsBuilderF 67 5 w1.heap.size w1.heap.size (Lib.byteCells []) (w1.alloc (.cells #[.pointer none,.slice none 0 0] 67)):=Lib.IsBuilderF.of (Lib.fresh_isBuilder 67 5 w1)
   have amj:Below w1.heap.size w1 (w1.alloc (.cells #[.pointer none,.slice none 0 0] 67)):=(Below.refl _ _).alloc (ZB5 _) _
   subst hL
   go_wp2
   refine wp_loop_rounds 1 ?_
   rw [rounds_succ]
   go_wp2_with (go_at_call 37;refine (Any.Builder_String_any_f (ρ:=Tryz.DX) { Tryz.ZI with } Tryz.rq w1.heap.size w1.heap.size [] _ hbw amj.size).mono ?_)
   rintro e w4 ⟨rfl,_,b4⟩
   go_wp2
   go_ret2
   exact⟨rfl,(b2.trans (amj.mono b2.size)).trans (b4.mono b2.size)⟩
  ·have hbw:Lib.IsBuilderF 67 5 w1.heap.size w1.heap.size (Lib.byteCells []) (w1.alloc (.cells #[.pointer none,.slice none 0 0] 67)):=Lib.IsBuilderF.of (Lib.fresh_isBuilder 67 5 w1)
   have hst:w1.heap[W.heap.size]?=some (.cells #[s0,s1,s2,amr,ams,amt,amu,amv] 29):=by
    rw [b1.block _ (ank _ _ _).2]
    exact (ank _ _ _).1
   have ad2:W.heap.size<w1.heap.size:=ZG1 (ank W _ _).2 b1.size
   go_wp2
   go_loopw [23] (fun i wr=>∃(k:Nat) (out:List UInt8),k≤L.length∧i= .int .i64 k∧Lib.IsBuilderF 67 5 w1.heap.size w1.heap.size (Lib.byteCells out) wr∧Below w1.heap.size w1 wr∧out.length≤1000000*k∧bgR R L.length (L.length-k) k out=bgR R L.length L.length 0 []) (fun i _=>L.length-(intOf i).toNat)
   case atStart=>exact⟨0,[],ZA7 _,rfl,hbw,(Below.refl _ _).alloc (ZB5 _) _,ZA7 _,rfl⟩
   case round=>
    obtain⟨k,out,hk,rfl,hb,hnx,nY,hg⟩:=hrel
    by_cases bU:k<L.length
    ·obtain⟨c0,c1,c2,c3,c4⟩:=agM k bU
     have d0:=(hnx.cell (p:=⟨amD,amE+k*5,none⟩) hvb).trans c0
     have d1:=(hnx.cell (p:=⟨amD,amE+k*5+1,none⟩) hvb).trans c1
     have d2:=(hnx.cell (p:=⟨amD,amE+k*5+2,none⟩) hvb).trans c2
     have d3:=(hnx.cell (p:=⟨amD,amE+k*5+3,none⟩) hvb).trans c3
     have d4:=(hnx.cell (p:=⟨amD,amE+k*5+4,none⟩) hvb).trans c4
     clear c0 c1 c2 c3 c4 agM hTL
     have amk:Below W.heap.size W wr:=b2.trans (hnx.mono b2.size)
     rw [show L.length-k=(L.length-(k+1))+1 by omega,bgR] at hg
     go_wp2_with (go_at_call 32;refine (hRD _ _ k bU ?_ ?_ ?_).mono ?_)
     ·exact (amk.alloc amk.size _)
     ·exact ZB5 _
     ·exact (heap_alloc_old wr _ (ZG1 ad2 hnx.size)).trans ((hnx.block _ ad2).trans hst)
     rintro e w3 ⟨⟨q,rfl⟩,b3⟩
     go_wp2_with (go_at_call 36;refine (Any.Builder_WriteString_f (ρ:=Tryz.DX) { Tryz.ZI with } Tryz.rq w1.heap.size w1.heap.size (Lib.byteCells out) (R k) _ ?_ ?_ ?_).mono ?_)
     all_goals first|(have hE:bgR R L.length L.length 0 []=([],false):=(by rw [←hg,if_pos (by first|exact .inl ⟨by assumption,by assumption⟩|exact .inr (by assumption))]);go_ret2;refine⟨?_,(amk.alloc amk.size _).trans (b3.mono (amk.alloc amk.size _).size)⟩;first|(rw [cond_true,hE];done)|(rw [hE];done)|(rw [cond_true,hE];rfl)|(rw [hE];rfl))|exact aov (hb.alloc _) b3|(rw [Lib.byteCells_length];have:=hR k;omega)|exact ZB0 (hnx.alloc hnx.size _).size b3.size|skip
     all_goals intro e w4
     all_goals first|rintro rfl hb4 b4|rintro⟨rfl,hb4,b4⟩
     all_goals go_wp2
     all_goals
      have cO:bgR R L.length (L.length-(k+1)) (k+1) (out++(R k).data.toList)=bgR R L.length L.length 0 []:=by
       rw [←hg,if_neg]
       rintro (⟨_,h⟩ |h)
       ·omega
       ·exact absurd (h.symm.trans ‹(R k).toList.isEmpty=false›) (by decide)
      have hlen:(out++(R k).data.toList).length≤1000000*(k+1):=by
       rw [ZA0,ZE4]
       have h1:=hR k
       have h2:(R k).data.size≤1000000:=h1
       have h3:=nY
       have h4:out.length+(R k).data.size≤1000000*k+1000000:=Nat.add_le_add h3 h2
       rw [Nat.mul_add];exact h4
      refine⟨⟨k+1,out++(R k).data.toList,bU,rfl,.inr (by have h:=hb4;rw [Lib.byteCells_append];exact h),((hnx.alloc hnx.size _).trans (b3.mono (hnx.alloc hnx.size _).size)).trans (b4.mono (ZB5 _)),hlen,cO⟩,?_⟩
      show L.length-((k:Int)+1).toNat<L.length-((k:Int)).toNat
      omega
    ·go_wp2_with (go_at_call 37;refine (Any.Builder_String_any_f (ρ:=Tryz.DX) { Tryz.ZI with } Tryz.rq w1.heap.size w1.heap.size out _ hb hnx.size).mono ?_)
     rintro e w4 ⟨rfl,_,b4⟩
     go_wp2
     go_ret2
     have hkk:k=L.length:=by omega
     subst hkk
     rw [Nat.sub_self,bgR] at hg
     rw [←hg]
     exact⟨rfl,(b2.trans (hnx.mono b2.size)).trans (b4.mono b2.size)⟩
noncomputable def amM (s:ay) (t:bf):ByteArray×Bool:=bif (pq s t).2 then c7 s t else (⟨#[]⟩,false)
theorem aob {s:ay}{t:bf}(h:(pq s t).2=false):amM s t=(⟨#[]⟩,false):=by unfold amM;rw [h];rfl
theorem anQ {s:ay}{t:bf}(h:(pq s t).2=true):amM s t=c7 s t:=by unfold amM;rw [h];rfl
theorem aoR {R:Nat→ByteArray}{n:Nat}:∀(l:List ByteArray) (k:Nat) (out:ByteArray),(∀i,i<l.length→nth ab l i=R (k+i))→bgR R n l.length k out.data.toList=((bgF n l k out).1.data.toList,(bgF n l k out).2)
 |[],_,_,_=>rfl
 |x::l,k,out,h=>by
  have hx:x=R k:=h 0 (Nat.succ_pos _)
  have ih:=aoR (R:=R) (n:=n) l (k+1) (out++x) (fun i hi=>by have:=h (i+1) (Nat.succ_lt_succ hi);rw [show k+1+i=k+(i+1) by omega];exact this)
  have he:(R k).toList.isEmpty=decide (x=⟨#[]⟩):=by
   rw [←hx,Lib.toList_data]
   cases hd:x.data.toList with
   |nil=>exact (decide_eq_true (show x=⟨#[]⟩ from WideShapes.bytes_inj hd)).symm
   |cons a r=>exact (decide_eq_false (fun e=>by subst e;cases hd)).symm
  rw [ZA1,bgR,bgF,he,←hx]
  cases hb:bgB n x k with
  |true=>
   rw [cond_true,if_pos]
   ·unfold bgB at hb
    rcases Bool.or_eq_true_iff.1 hb with h1 |h1
    ·exact .inr h1
    ·obtain⟨h2,h3⟩:=Bool.and_eq_true_iff.1 h1
     have h2:=aJ h2
     exact .inl ⟨by omega,aJ h3⟩
  |false=>
   rw [cond_false,if_neg,←ih]
   ·rw [ByteArray.data_append,Array.toList_append]
   ·unfold bgB at hb
    obtain⟨h1,h2⟩:=ZE1.1 hb
    rintro (⟨h3,h4⟩ |h3)
    ·rcases Bool.and_eq_false_iff.1 h2 with h5 |h5
     ·have h5:=aA h5;omega
     ·exact aA h5 h4
    ·rw [h1] at h3;cases h3
theorem aoe {s:ay}{t:bf}(h:(pq s t).2=true):(aB s t).take t.many.toNat=(pq s t).1:=by
 rw [YC] at h
 obtain⟨h1,h2⟩:=Bool.and_eq_true_iff.1 h
 rw [K3 h1 h2]
 show (aB s t).take t.many.toNat=(bA s t).1.take t.many.toNat
 unfold aB
 rw [List.take_append_of_le_length (adl h2)]
noncomputable def ana:cn:=XX [.a xq,.a [.int,.int,.int,.int,.int,.int,.int]] (fun x=>am1 x.1 x.2) fun x=>.t [.s (.str (amM x.1 x.2).1),.s (.q (amM x.1 x.2).2)]
theorem anI:Has Tryz.prog 14 ana:=by
 refine Has.lib ⟨_,Tryz.func14,by rfl,by decide⟩ (fun x=>⟨rfl,rfl⟩) fun (x:ay×bf) (hp:am1 x.1 x.2) W T β vs hT hN c6=>?_
 obtain⟨⟨ro,rf,la,tx,go,kp,de,sm⟩,⟨t1,t2,t3,t4,t5,t6,t7⟩⟩:=x
 have ao4:=c6
 obtain⟨v0,r0,rfl,⟨⟨l0⟩,rfl,hs⟩,hr⟩:=anO c6
 obtain⟨v1,r1,rfl,⟨⟨l1⟩,rfl,ht⟩,hr1⟩:=anO hr
 obtain rfl:=aoy hr1
 have hs:dM T β [.vz ab ro,.vz ag rf,.vz ag la,.int tx,.vz ae go,.int kp,.vz ae de,.q sm] l0:=hs
 have ht:dM T β [.int t1,.int t2,.int t3,.int t4,.int t5,.int t6,.int t7] l1:=ht
 obtain⟨s0,m0,rfl,g0,hs1⟩:=amG hs
 obtain⟨s1,m1,rfl,g1,hs2⟩:=amG hs1
 obtain⟨s2,m2,rfl,g2,hs3⟩:=amG hs2
 obtain⟨amr,m3,rfl,g3,hs4⟩:=amG hs3
 obtain⟨ams,m4,rfl,g4,hs5⟩:=amG hs4
 obtain⟨amt,m5,rfl,g5,hs6⟩:=amG hs5
 obtain⟨amu,m6,rfl,g6,hs7⟩:=amG hs6
 obtain⟨amv,m7,rfl,g7,hs8⟩:=amG hs7
 obtain rfl:=an3 hs8
 obtain⟨amw,k1,rfl,f1,ht2⟩:=amG ht
 obtain⟨amx,k2,rfl,f2,ht3⟩:=amG ht2
 obtain⟨amy,k3,rfl,f3,ht4⟩:=amG ht3
 obtain⟨amz,k4,rfl,f4,ht5⟩:=amG ht4
 obtain⟨amA,k5,rfl,f5,ht6⟩:=amG ht5
 obtain⟨amB,amn,rfl,f6,ht7⟩:=amG ht6
 obtain⟨amC,amo,rfl,f7,ht8⟩:=amG ht7
 obtain rfl:=an3 ht8
 generalize hS:((ro,rf,la,tx,go,kp,de,sm):ay)=S at *
 generalize hU:((t1,t2,t3,t4,t5,t6,t7):bf)=U at *
 have hlen:(pq S U).1.length≤16:=by
  cases h:(pq S U).2 with
  |true=>exact amV h
  |false=>rw [YC] at h;rw [anf h];exact ZA7 _
 have dE:(pq S U).2=true→ay.rd S∧ay.szs S∧(ay.rows S).length=64:=fun h=>by
  have hk:=QG.1 (ang h).1.1
  exact⟨hk.rd,hk.rd.sz,hk.len⟩
 have hR:∀k,(bif (pq S U).2 then (bF S (nth ae (pq S U).1 k)).1 else ⟨#[]⟩:ByteArray).size≤1000000:=fun k=>by
  cases h:(pq S U).2 with
  |true=>exact zk (dE h).1
  |false=>exact ZA7 _
 refine (aoG s0 s1 s2 amr ams amt amu amv amw amx amy amz amA amB amC W (pq S U).2 (pq S U).1 (fun k=>bif (pq S U).2 then (bF S (nth ae (pq S U).1 k)).1 else ⟨#[]⟩) hR hlen ?_ ?_).mono ?_
 ·intro w hb
  refine ((aoB.1 (S,U) () hp).lib (β:=β) (vs:=[.agg #[s0,s1,s2,amr,ams,amt,amu,amv],.agg #[amw,amx,amy,amz,amA,amB,amC]]) ?_ hT hN ?_ hb).mono ?_
  ·subst hS hU;rfl
  ·subst hS hU;exact ao4
  rintro e w' ⟨v,r,os,T',β',rfl,⟨z,_,rfl,_⟩,hv,hB,hW,_⟩
  have hv1:AV.rel T' β' (.t [.s (.vw ae (pq S U).1),.s (.q (pq S U).2)]) v:=hv
  obtain⟨⟨vs⟩,rfl,hv2⟩:=hv1
  have hv3:uz T' β' [.s (.vw ae (pq S U).1),.s (.q (pq S U).2)] vs:=hv2
  match vs,hv3 with
  |[y,q],⟨hy,hq,_⟩=>
   have hq:q= .bool (pq S U).2:=hq
   subst hq
   refine⟨y,rfl,hB,?_⟩
   rcases (show SV.rel T' β' (.vw ae (pq S U).1) y from hy) with ⟨hL,p,cap,hy⟩ |⟨b,o,cap,cs,e,fr,hy,ET,hTb,hw⟩
   ·exact .inl ⟨hL,p,cap,hy⟩
   ·have hc:w'.heap[b]?=some (.cells cs e fr):=hW _ _ hTb
    refine .inr ⟨b,o,cap,hy,BK.lt (hW _ _ hTb),fun k hk=>?_⟩
    have hwr:=EX hw hk
    have hn:nth ae (pq S U).1 k=(pq S U).1[k]:=by unfold nth;rw [ZB1 hk]
    rw [hn] at hwr
    refine⟨?_,?_,?_,?_,?_⟩
    ·rw [rl hc];exact hwr 0 _ rfl
    ·rw [rl hc];exact hwr 1 _ rfl
    ·rw [rl hc];exact hwr 2 _ rfl
    ·rw [rl hc];exact hwr 3 _ rfl
    ·rw [rl hc];exact hwr 4 _ rfl
 ·intro w b2 k hk hb FF hc
  have cG:(pq S U).2=true:=by
   cases h:(pq S U).2 with
   |true=>rfl
   |false=>rw [YC] at h;rw [anf h] at hk;cases hk
  have hn:nth ae (pq S U).1 k=(pq S U).1[k]:=by unfold nth;rw [ZB1 hk]
  have hpt:aZ (nth ae (pq S U).1 k)=true:=((ang cG).2 _ (bR hk)).1.1
  rw [hn] at hpt
  obtain⟨hW1,hN1,hm⟩:=aoW hT hN hb FF hc
  have ahE:k6 S (pq S U).1[k]:=⟨(dE cG).2.1,(dE cG).2.2,hpt⟩
  have hR':(bF S (pq S U).1[k]).1=(bif (pq S U).2 then (bF S (nth ae (pq S U).1 k)).1 else ⟨#[]⟩):=by rw [cG,cond_true,hn]
  rw [←hR']
  generalize (pq S U).1[k]=p at *
  obtain⟨p1,p2,p3,p4,p5⟩:=p
  refine ((zD.1 (S,(p1,p2,p3,p4,p5)) () ahE).lib (β:=β) (vs:=[.pointer (some ⟨b2,0,none⟩),.agg #[.int .i64 p1,.int .i64 p2,.int .i64 p3,.int .i64 p4,.int .i64 p5]]) ?_ hW1 hN1 ?_ (Below.refl _ _)).mono ?_
  ·subst hS;rfl
  ·subst hS
   have f:=fun {x:SV} {y:Value} (hl:x.am5=true) (h:x.rel T β y)=>SV.nF hm (SV.fix hN hl h)
   refine⟨⟨b2,_,rfl,.inr (.inl ⟨29,(0,0),by unfold xe;rw [if_pos rfl]⟩),?_⟩,⟨_,rfl,rfl,rfl,rfl,rfl,rfl,trivial⟩,trivial⟩
   exact⟨f (x:=.vz ab ro) rfl g0,f (x:=.vz ag rf) rfl g1,f (x:=.vz ag la) rfl g2,g3,f (x:=.vz ae go) rfl g4,g5,f (x:=.vz ae de) rfl g6,g7,trivial⟩
  rintro e w' ⟨v,r,os,T',β',rfl,⟨z,_,rfl,_⟩,hv,hB,hW,_⟩
  have hv1:AV.rel T' β' (.t [.s (.str (bF S (p1,p2,p3,p4,p5)).1),.s (.q (bF S (p1,p2,p3,p4,p5)).2)]) v:=hv
  obtain⟨⟨vs⟩,rfl,hv2⟩:=hv1
  have hv3:uz T' β' [.s (.str (bF S (p1,p2,p3,p4,p5)).1),.s (.q (bF S (p1,p2,p3,p4,p5)).2)] vs:=hv2
  match vs,hv3 with
  |[y,q],⟨hy,hq,_⟩=>
   have hy:y= .string (bF S (p1,p2,p3,p4,p5)).1:=hy
   have hq:q= .bool (bF S (p1,p2,p3,p4,p5)).2:=hq
   subst hy hq
   exact⟨⟨_,rfl⟩,hB⟩
 ·rintro e w' ⟨rfl,hB⟩
  have e:(bif (pq S U).2 then bgR (fun k=>bif (pq S U).2 then (bF S (nth ae (pq S U).1 k)).1 else ⟨#[]⟩) (pq S U).1.length (pq S U).1.length 0 [] else ([],false))=((amM S U).1.data.toList,(amM S U).2):=by
   cases cG:(pq S U).2 with
   |false=>rw [aob cG];rfl
   |true=>
    have hl:bo S U=(pq S U).1.map fun p=>(bF S p).1:=by unfold bo sS;rw [aoe cG]
    have hlen:(bo S U).length=(pq S U).1.length:=by rw [hl,ZG2]
    have hm:=(amX cG).1
    have h:=aoR (R:=fun k=>bif (pq S U).2 then (bF S (nth ae (pq S U).1 k)).1 else ⟨#[]⟩) (n:=(pq S U).1.length) (bo S U) 0 ⟨#[]⟩ (fun i hi=>by
     rw [hl]
     have CS:i<(pq S U).1.length:=by rw [←hlen];exact hi
     show nth ab _ i=(bif (pq S U).2 then (bF S (nth ae (pq S U).1 (0+i))).1 else ⟨#[]⟩)
     rw [cG,cond_true,ZA6]
     unfold nth
     rw [List.getElem?_map,ZB1 CS];rfl)
    rw [hlen,hm] at h
    rw [anQ cG]
    rw [cG] at h
    exact h
  refine⟨_,rfl,hB,?_⟩
  rw [e]
  exact⟨_,rfl,rfl,rfl,trivial⟩
end GL
namespace GL
noncomputable section
def amH:List Pt→List Pt→Nat
 |p::x,q::y=>(bif ptrEq p q&& !(au p) then 1 else 0)+amH x y
 |_,_=>0
def amZ (x:List Pt):Nat:=x.countP fun p=>au p
theorem anu:∀x y:List Pt,amH x y=amH y x
 |[],[]=>rfl
 |[],_::_=>rfl
 |_::_,[]=>rfl
 |p::x,q::y=>by
  unfold amH
  rw [anu x y]
  cases h:ptrEq p q with
  |true=>have:=r7.1 h;subst this;rw [show ptrEq p p=true from h]
  |false=>
   have h2:ptrEq q p=false:=by
    cases h2:ptrEq q p with
    |false=>rfl
    |true=>have:=r7.1 h2;subst this;rw [show ptrEq q q=true from r7.2 rfl] at h;cases h
   rw [h2];rfl
theorem anv:∀x:List Pt,amH x x+amZ x=x.length
 |[]=>rfl
 |p::x=>by
  have h:=anv x
  unfold amZ at h ⊢
  unfold amH
  rw [show ptrEq p p=true from r7.2 rfl,List.countP_cons,ZA1]
  cases hp:au p with
  |true=>simp;omega
  |false=>simp;omega
theorem amW:∀x y:List Pt,amH x y≤x.length∧amH x y≤y.length
 |[],y=>⟨ZA7 _,ZA7 _⟩
 |_::_,[]=>⟨ZA7 _,ZA7 _⟩
 |p::x,q::y=>by
  have h:=amW x y
  unfold amH
  rw [ZA1,ZA1]
  cases ptrEq p q&& !(au p)<;>simp<;>omega
def amN (s:ay) (a b:bf):Int×Bool:=bif (pq s a).2&&(pq s b).2 then (((amH (pq s a).1 (pq s b).1:Nat):Int),true) else (0,false)
theorem anD {s:ay}{a b:bf}(h:(pq s a).2=false∨(pq s b).2=false):amN s a b=(0,false):=by
 unfold amN
 rcases h with h |h
 ·rw [h];rfl
 ·rw [h,ZD7];rfl
theorem am0 {s:ay}{a b:bf}(h:(pq s a).2=true) (h2:(pq s b).2=true):amN s a b=(((amH (pq s a).1 (pq s b).1:Nat):Int),true):=by unfold amN;rw [h,h2];rfl
theorem anm:∀x:List Pt,amH x []=0
 |[]=>rfl
 |_::_=>rfl
theorem aoq {x y:List Pt}{i:Nat}(hx:i<x.length) (hy:i<y.length):amH (x.drop i) (y.drop i)=(bif ptrEq (nth ae x i) (nth ae y i)&& !(au (nth ae x i)) then 1 else 0)+amH (x.drop (i+1)) (y.drop (i+1)):=by
 rw [bW (ek:=ae) hx,bW (ek:=ae) hy];rfl
theorem aof {x y:List Pt}{i:Nat}(h:¬(i<x.length∧i<y.length)):amH (x.drop i) (y.drop i)=0:=by
 by_cases hx:i<x.length
 ·rw [show y.drop i=[] from ZB3 (by omega)];exact anm _
 ·rw [show x.drop i=[] from ZB3 (by omega)];rfl
structure amg (X Y:List Pt) (i:Nat) (n:Int):Prop where
 n:n=(amH X Y:Int)-amH (X.drop i) (Y.drop i)
 x:i≤X.length
 y:i≤Y.length
theorem amg.z (X Y:List Pt):amg X Y 0 0:=⟨by simp,ZA7 _,ZA7 _⟩
theorem amg.st {X Y:List Pt}{i:Nat}{n:Int}(h:amg X Y i n) (h1:i<X.length) (h2:i<Y.length) (c:Bool) (hc:(ptrEq (nth ae X i) (nth ae Y i)&& !(au (nth ae X i)))=c):amg X Y (i+1) (n+bif c then 1 else 0):=by
 have e:=aoq h1 h2
 rw [hc] at e
 refine⟨?_,h1,h2⟩
 have:=h.n
 cases c with
 |true=>simp only [cond_true] at e ⊢;omega
 |false=>simp only [cond_false] at e ⊢;omega
theorem amg.hit {X Y:List Pt}{i:Nat}{n:Int}(h:amg X Y i n) (h1:i<X.length) (h2:i<Y.length) (hq:ptrEq (nth ae X i) (nth ae Y i)=true) (hh:(!(au (nth ae X i)))=true):amg X Y (i+1) (n+1):=h.st h1 h2 true (by rw [hq,hh];rfl)
theorem amg.mi {X Y:List Pt}{i:Nat}{n:Int}(h:amg X Y i n) (h1:i<X.length) (h2:i<Y.length) (hq:ptrEq (nth ae X i) (nth ae Y i)=false∨(!(au (nth ae X i)))=false):amg X Y (i+1) n:=by
 have e:=h.st h1 h2 false (by rcases hq with hq |hq<;>rw [hq];exact Bool.false_and _;exact ZD7 _)
 rw [cond_false,Int.add_zero] at e;exact e
theorem amg.aml {X Y:List Pt}{i:Nat}{n:Int}(h:amg X Y i n) (hx:X.length≤16): -16≤n∧n≤16:=by
 have h1:=(amW X Y).1
 have h2:=(amW (X.drop i) (Y.drop i)).1
 rw [ZD0] at h2
 have:=h.n;omega
theorem amg.e {X Y:List Pt}{i:Nat}{n:Int}(h:amg X Y i n) (he:¬(i<X.length∧i<Y.length)):n=(amH X Y:Int):=by
 have:=aof he;have:=h.n;omega
theorem ao8 {i n:Nat}(h:decide ((i:Int)<(n:Int))=true):i<n:=by have:=aJ h;omega
theorem ao6 {i n:Nat}(h:decide ((i:Int)<(n:Int))=false):¬i<n:=by have:=aA h;omega
theorem lt_min {i n m:Nat}(h:decide ((i:Int)<min (n:Int) (m:Int))=true):i<n∧i<m:=by have:=aJ h;omega
theorem ao7 {i n m:Nat}(h:decide ((i:Int)<min (n:Int) (m:Int))=false):¬(i<n∧i<m):=by have:=aA h;omega
end
end GL
namespace GL
noncomputable section
structure ao5 (l:List Int):Prop where
 jH:∀b∈l,0≤b∧b≤255
theorem aoS (s:ay) (a b:bf) (h:(amN s a b).2=true):(amN s b a).2=true∧(amN s a a).2=true∧(amN s b a).1=(amN s a b).1∧(amN s a a).1+(amZ (pq s a).1:Int)=a.many∧(amN s a b).1≤a.many∧(amN s a b).1≤b.many∧((pq s a).1.length:Int)=a.many∧0≤(amN s a a).1∧(amN s a a).1≤a.many:=by
 have h1:(pq s a).2=true:=by
  cases h1:(pq s a).2 with
  |true=>rfl
  |false=>rw [anD (.inl h1)] at h;cases h
 have h2:(pq s b).2=true:=by
  cases h2:(pq s b).2 with
  |true=>rfl
  |false=>rw [anD (.inr h2)] at h;cases h
 rw [am0 h1 h2,am0 h2 h1,am0 h1 h1]
 have ha:=(amX h1).1
 have hb:=(amX h2).1
 have h3:=anv (pq s a).1
 have h4:=amW (pq s a).1 (pq s b).1
 have h5:=amW (pq s a).1 (pq s a).1
 refine⟨rfl,rfl,by rw [anu],?_,?_,?_,ha,Int.natCast_nonneg _,?_⟩
 ·show ((amH (pq s a).1 (pq s a).1:Nat):Int)+(amZ (pq s a).1:Int)=_;omega
 ·show ((amH (pq s a).1 (pq s b).1:Nat):Int)≤_;omega
 ·show ((amH (pq s a).1 (pq s b).1:Nat):Int)≤_;omega
 ·show ((amH (pq s a).1 (pq s a).1:Nat):Int)≤_;omega
theorem ao1 (s:ay) (t:bf):(pq s t).1.length≤16:=by
 cases h:(pq s t).2 with
 |true=>exact amV h
 |false=>
  rw [YC] at h
  rw [anf h];exact ZA7 _
structure amf (X:List Pt) (m0:Int) (i:Nat) (m:Int):Prop where
 x:i≤X.length
 m:m=m0+(amZ (X.take i):Int)
theorem amf.z (X:List Pt) (m0:Int):amf X m0 0 m0:=⟨ZA7 _,(Int.add_zero _).symm⟩
theorem amf.hit {X:List Pt}{m0 m:Int}{i:Nat}(h:amf X m0 i m) (h1:i<X.length) (hp:au (nth ae X i)=true):amf X m0 (i+1) (m+1):=
 ⟨h1,by rw [h.m];unfold amZ;rw [F6 h1,List.countP_append];simp [hp];omega⟩
theorem amf.mi {X:List Pt}{m0 m:Int}{i:Nat}(h:amf X m0 i m) (h1:i<X.length) (hp:au (nth ae X i)=false):amf X m0 (i+1) m:=
 ⟨h1,by rw [h.m];unfold amZ;rw [F6 h1,List.countP_append];simp [hp]⟩
theorem amf.aml {X:List Pt}{m0 m:Int}{i:Nat}(h:amf X m0 i m) (hx:X.length≤16):m0≤m∧m≤m0+16:=by
 have h1:amZ (X.take i)≤(X.take i).length:=List.countP_le_length ..
 rw [ZC0] at h1
 have:=h.m;omega
theorem amf.fin {X:List Pt}{m0 m:Int}{i:Nat}(h:amf X m0 i m) (hi:¬i<X.length):m=m0+(amZ X:Int):=by
 have:=h.m
 rwa [ZD1 (by omega)] at this
end
end GL
namespace GL
noncomputable section
def amI (s:ay) (a b:bf):Bool:=(amM s a).2&&(amM s b).2&&decide ((amM s a).1=(amM s b).1)
theorem am7 (s:ay) (a b:bf):amI s b a=amI s a b:=by
 unfold amI
 rw [Bool.and_comm (amM s b).2]
 refine congrArg _ ?_
 by_cases h:(amM s a).1=(amM s b).1
 ·rw [h]
 ·rw [decide_eq_false h,decide_eq_false fun e=>h e.symm]
theorem ane {s:ay}{a b:bf}(h1:(amM s a).2=true) (h2:(amM s b).2=true):amI s a b=decide ((amM s a).1=(amM s b).1):=by unfold amI;rw [h1,h2];rfl
theorem anr {s:ay}{a b:bf}(h2:(amM s b).2=false):amI s a b=false:=by unfold amI;rw [h2,ZD7];rfl
theorem ans {s:ay}{a b:bf}(h1:(amM s a).2=false):amI s a b=false:=by unfold amI;rw [h1];rfl
def amU (S:ay) (a:bf) (b:bf):Prop:=S.gone.length≤1000000∧S.dead.length≤1000000
def amJ (S:ay) (a:bf) (b:bf):AV:=.s (.q (amI S a b))
def anU (S:ay) (a:bf) (b:bf):List AV:=[]
def am6:cn where
 A:=[.a xq,.a [.int,.int,.int,.int,.int,.int,.int],.a [.int,.int,.int,.int,.int,.int,.int]]
 B:=[]
 pre:=fun x b=>amU (x.1) (x.2.1) (x.2.2)
 r:=fun x b _=>amJ (x.1) (x.2.1) (x.2.2)
 o:=fun x b _=>anU (x.1) (x.2.1) (x.2.2)
theorem aoa:Has Tryz.prog 12 am6:=by
 refine Has.zv zT zF zF (l:=[(14,ana)]) ⟨anI,aa⟩ Tryz.func12 ?_
 rintro⟨⟨(aj:List ByteArray),(ak:List Int),(an:List Int),(ao:Int),(ah:List Pt),(aq:Int),(ai:List Pt),(ar:Bool)⟩,⟨(a1:Int),(a2:Int),(a3:Int),(a4:Int),(a5:Int),(amh:Int),(ami:Int)⟩,⟨(b1:Int),(b2:Int),(b3:Int),(b4:Int),(b5:Int),(b6:Int),(b7:Int)⟩⟩ _ (hp:amU (aj,ak,an,ao,ah,aq,ai,ar) (a1,a2,a3,a4,a5,amh,ami) (b1,b2,b3,b4,b5,b6,b7))
 show vc _ _ _ _ (entry [.a [.vz ab aj,.vz ag ak,.vz ag an,.int ao,.vz ae ah,.int aq,.vz ae ai,.q ar],.a [.int a1,.int a2,.int a3,.int a4,.int a5,.int amh,.int ami],.a [.int b1,.int b2,.int b3,.int b4,.int b5,.int b6,.int b7]] []) _
 let g':=(aj,ak,an,ao,ah,aq,ai,ar)
 let A':=(a1,a2,a3,a4,a5,amh,ami)
 let B':=(b1,b2,b3,b4,b5,b6,b7)
 obtain⟨hg,hd⟩:=hp
 refine⟨⟨⟨tv9,tv8,aa⟩,?_,?_⟩,fun x1 w2=>⟨⟨⟨tv9,tv8,aa⟩,?_,?_⟩,fun x3 w4=>⟨aa,fun w5=>⟨aa,fun w6=>?_,fun w7=>?_⟩,fun w8=>?_⟩⟩⟩
 all_goals first|refine aw ?_|refine ax ?_|exact a8|exact a7|exact⟨hg,hd⟩|skip
 ·refine⟨[],[],_,_,_,rfl,az,(),aa,?_,?_,rfl⟩
  ·(show _=amJ g' A' B');unfold amJ;first|(rw [ane (s:=g') (a:=A') (b:=B') w5 w6];rfl)|rfl
  ·rfl
 ·refine⟨[],[],_,_,_,rfl,az,(),aa,?_,?_,rfl⟩
  ·(show _=amJ g' A' B');unfold amJ;first|(rw [anr (s:=g') (a:=A') (b:=B') w7];rfl)|rfl
  ·rfl
 ·refine⟨[],[],_,_,_,rfl,az,(),aa,?_,?_,rfl⟩
  ·(show _=amJ g' A' B');unfold amJ;first|(rw [ans (s:=g') (a:=A') (b:=B') w8];rfl)|rfl
  ·rfl
def am4 (S:ay) (t:bf):Prop:=S.gone.length≤1000000∧S.dead.length≤1000000
def amR (S:ay) (t:bf):AV:=.t [.s (.str (amM S t).1),.s (.q (amM S t).2)]
def aog (S:ay) (t:bf):List AV:=[]
def anq:cn where
 A:=[.a xq,.a [.int,.int,.int,.int,.int,.int,.int]]
 B:=[]
 pre:=fun x b=>am4 (x.1) (x.2)
 r:=fun x b _=>amR (x.1) (x.2)
 o:=fun x b _=>aog (x.1) (x.2)
theorem aou:Has Tryz.prog 35 anq:=by
 refine Has.fl zT zF zF (l:=[(39,ae9),(71,PQ)]) ⟨aiY,afP,aa⟩ Tryz.func35 ?_
 rintro⟨⟨(aj:List ByteArray),(ak:List Int),(an:List Int),(ao:Int),(ah:List Pt),(aq:Int),(ai:List Pt),(ar:Bool)⟩,⟨(t1:Int),(t2:Int),(t3:Int),(t4:Int),(t5:Int),(t6:Int),(t7:Int)⟩⟩ _ (hp:am4 (aj,ak,an,ao,ah,aq,ai,ar) (t1,t2,t3,t4,t5,t6,t7))
 show vc _ _ _ _ (entry [.a [.vz ab aj,.vz ag ak,.vz ag an,.int ao,.vz ae ah,.int aq,.vz ae ai,.q ar],.a [.int t1,.int t2,.int t3,.int t4,.int t5,.int t6,.int t7]] []) _
 let g':=(aj,ak,an,ao,ah,aq,ai,ar)
 let A':=(t1,t2,t3,t4,t5,t6,t7)
 obtain⟨hg,hd⟩:=hp
 have hk:(!(iG g'&&qF g' A'))=false→KE g'∧qF g' A'=true:=fun h=>⟨QG.1 (Bool.and_eq_true_iff.1 (cL h)).1,(Bool.and_eq_true_iff.1 (cL h)).2⟩
 refine⟨⟨⟨tv9,tv8,aa⟩,?_,?_⟩,fun x1 w2=>⟨fun w3=>?_,fun w4=>⟨⟨⟨tv9,tv8,aa⟩,?_,?_⟩,fun x5 w6=>?_⟩⟩⟩
 all_goals first|refine aw ?_|refine ax ?_|exact a8|(dsimp only [ae9,G3,PQ,BX];omega)|exact a7|exact hg|exact hd|exact (hk w4).1.rd|exact anA (hk w4).2|skip
 ·have e:=aob (s:=g') (t:=A') (YC.trans (uo w3))
  refine⟨[],[],_,_,_,rfl,az,(),aa,?_,?_,rfl⟩
  ·(show _=amR g' A');unfold amR;first|(rw [e];rfl)|rfl
  ·rfl
 ·have e:=anQ (s:=g') (t:=A') (YC.trans (cL w4))
  refine⟨[],[],_,_,_,rfl,az,(),aa,?_,?_,rfl⟩
  ·(show _=amR g' A');unfold amR;first|(rw [e];rfl)|rfl
  ·rfl
def amY (S:ay) (a:bf) (b:bf):Prop:=S.gone.length≤1000000∧S.dead.length≤1000000
def amL (S:ay) (a:bf) (b:bf):AV:=.s (.q (amI S a b))
def an9 (S:ay) (a:bf) (b:bf):List AV:=[]
def anb:cn where
 A:=[.a xq,.a [.int,.int,.int,.int,.int,.int,.int],.a [.int,.int,.int,.int,.int,.int,.int]]
 B:=[]
 pre:=fun x b=>amY (x.1) (x.2.1) (x.2.2)
 r:=fun x b _=>amL (x.1) (x.2.1) (x.2.2)
 o:=fun x b _=>an9 (x.1) (x.2.1) (x.2.2)
theorem aoh:Has Tryz.prog 13 anb:=by
 refine Has.fl zT zF zF (l:=[(35,anq)]) ⟨aou,aa⟩ Tryz.func13 ?_
 rintro⟨⟨(aj:List ByteArray),(ak:List Int),(an:List Int),(ao:Int),(ah:List Pt),(aq:Int),(ai:List Pt),(ar:Bool)⟩,⟨(a1:Int),(a2:Int),(a3:Int),(a4:Int),(a5:Int),(amh:Int),(ami:Int)⟩,⟨(b1:Int),(b2:Int),(b3:Int),(b4:Int),(b5:Int),(b6:Int),(b7:Int)⟩⟩ _ (hp:amY (aj,ak,an,ao,ah,aq,ai,ar) (a1,a2,a3,a4,a5,amh,ami) (b1,b2,b3,b4,b5,b6,b7))
 show vc _ _ _ _ (entry [.a [.vz ab aj,.vz ag ak,.vz ag an,.int ao,.vz ae ah,.int aq,.vz ae ai,.q ar],.a [.int a1,.int a2,.int a3,.int a4,.int a5,.int amh,.int ami],.a [.int b1,.int b2,.int b3,.int b4,.int b5,.int b6,.int b7]] []) _
 let g':=(aj,ak,an,ao,ah,aq,ai,ar)
 let A':=(a1,a2,a3,a4,a5,amh,ami)
 let B':=(b1,b2,b3,b4,b5,b6,b7)
 obtain⟨hg,hd⟩:=hp
 refine⟨⟨⟨tv9,tv8,aa⟩,?_,?_⟩,fun x1 w2=>⟨⟨⟨tv9,tv8,aa⟩,?_,?_⟩,fun x3 w4=>⟨aa,fun w5=>⟨aa,fun w6=>?_,fun w7=>?_⟩,fun w8=>?_⟩⟩⟩
 all_goals first|refine aw ?_|refine ax ?_|exact a8|(dsimp only [anq,am4];omega)|exact a7|exact hg|exact hd|skip
 ·refine⟨[],[],_,_,_,rfl,az,(),aa,?_,?_,rfl⟩
  ·(show _=amL g' A' B');unfold amL;first|(rw [ane (s:=g') (a:=A') (b:=B') w5 w6];rfl)|rfl
  ·rfl
 ·refine⟨[],[],_,_,_,rfl,az,(),aa,?_,?_,rfl⟩
  ·(show _=amL g' A' B');unfold amL;first|(rw [anr (s:=g') (a:=A') (b:=B') w7];rfl)|rfl
  ·rfl
 ·refine⟨[],[],_,_,_,rfl,az,(),aa,?_,?_,rfl⟩
  ·(show _=amL g' A' B');unfold amL;first|(rw [ans (s:=g') (a:=A') (b:=B') w8];rfl)|rfl
  ·rfl
def am3 (c:List Int):Prop:=ao5 c
def amF (c:List Int):AV:=.s (.q true)
def anN (c:List Int):List AV:=[]
def an1:cn where
 A:=[.s (.vw ma)]
 B:=[]
 pre:=fun x b=>am3 x
 r:=fun x b _=>amF x
 o:=fun x b _=>anN x
theorem anX:Has Tryz.prog 4 an1:=by
 refine Has.zv zT zF (fun d=>true) (l:=[(11,amT),(12,am6),(13,anb),(14,ana)]) ⟨anJ,aoa,aoh,anI,aa⟩ Tryz.func4 ?_
 rintro (c:List Int) _ (hp:am3 c)
 show vc _ _ _ _ (entry [.s (.vw ma c)] []) _
 have hb:ao5 c:=hp
 refine⟨fun w1=>?_,fun w2=>⟨⟨tv2,?_⟩,fun x3 w4=>⟨⟨⟨⟨?_,?_,?_,aa,?_,aa,?_,tv2⟩,tv8,tv8,aa⟩,?_,?_⟩,fun x5 w6=>⟨⟨⟨⟨?_,?_,?_,aa,?_,aa,?_,tv2⟩,tv8,tv8,aa⟩,?_,?_⟩,fun x7 w8=>⟨fun w9=>?_,fun dx=>⟨⟨⟨⟨?_,?_,?_,aa,?_,aa,?_,tv2⟩,tv8,aa⟩,?_,?_⟩,fun ku dI=>⟨⟨⟨⟨?_,?_,?_,aa,?_,aa,?_,tv2⟩,tv8,aa⟩,?_,?_⟩,fun rS gN=>⟨aa,fun qG=>⟨aa,fun kc=>⟨aa,fun xd=>⟨⟨⟨⟨?_,?_,?_,aa,?_,aa,?_,tv2⟩,tv8,tv8,aa⟩,?_,?_⟩,fun qD oH=>?_⟩,fun uE=>?_⟩,fun AY=>⟨aa,fun AX=>⟨⟨⟨⟨?_,?_,?_,aa,?_,aa,?_,tv2⟩,tv8,tv8,aa⟩,?_,?_⟩,fun x23 rN=>?_⟩,fun w25=>?_⟩⟩,fun w26=>⟨aa,fun w27=>⟨⟨⟨⟨?_,?_,?_,aa,?_,aa,?_,tv2⟩,tv8,tv8,aa⟩,?_,?_⟩,fun x28 w29=>?_⟩,fun w30=>?_⟩⟩⟩⟩⟩⟩⟩⟩⟩
 all_goals first|refine aw ?_|refine ax ?_|exact a8|(dsimp only [amT,amQ,am6,amU,anb,amY];omega)|exact a7|(show x3.2.1+(x3.1.rows.length-x3.2.1)≤x3.1.rows.length;have h:x3.2.1≤x3.1.rows.length:=w4.2;omega)|exact ZB0 (anp x3.1 x3.2.1).1 w4.1.1|exact ZB0 (anp x3.1 x3.2.1).2 w4.1.2|skip
 ·refine⟨[],[],_,_,_,rfl,az,(),aa,?_,?_,rfl⟩
  ·(show _=amF c);unfold amF;first|rfl
  ·rfl
 ·have h:=aA (p:=(c.length:Int)>1048576) w2
  exact (aj2.mk (l:=c) (by omega) hb.jH)
 ·exact absurd (show (!(amI (amP x3.1 x3.2.1) x3.2.2.1 x3.2.2.2==amI (amP x3.1 x3.2.1) x3.2.2.1 x3.2.2.2))=true from w9) (by simp)
 ·refine⟨[],[],_,_,_,rfl,az,(),aa,?_,?_,rfl⟩
  ·show AV.q _=amF c;unfold amF;refine congrArg AV.q ?_;(show (amI (amP x3.1 x3.2.1) x3.2.2.2 x3.2.2.1==amI (amP x3.1 x3.2.1) x3.2.2.1 x3.2.2.2)=true;rw [am7];simp)
  ·rfl
 ·exact absurd (show (amI (amP x3.1 x3.2.1) x3.2.2.1 x3.2.2.2==decide ((amM (amP x3.1 x3.2.1) x3.2.2.1).1=(amM (amP x3.1 x3.2.1) x3.2.2.2).1))=false from uE) (by rw [ane (s:=amP x3.1 x3.2.1) (a:=x3.2.2.1) (b:=x3.2.2.2) qG kc];simp)
 ·refine⟨[],[],_,_,_,rfl,az,(),aa,?_,?_,rfl⟩
  ·show AV.q _=amF c;unfold amF;refine congrArg AV.q ?_;(show (amI (amP x3.1 x3.2.1) x3.2.2.2 x3.2.2.1==amI (amP x3.1 x3.2.1) x3.2.2.1 x3.2.2.2)=true;rw [am7];simp)
  ·rfl
 ·exact absurd (show (amI (amP x3.1 x3.2.1) x3.2.2.1 x3.2.2.2==false)=false from w25) (by rw [anr (s:=amP x3.1 x3.2.1) (a:=x3.2.2.1) (b:=x3.2.2.2) AY];simp)
 ·refine⟨[],[],_,_,_,rfl,az,(),aa,?_,?_,rfl⟩
  ·show AV.q _=amF c;unfold amF;refine congrArg AV.q ?_;(show (amI (amP x3.1 x3.2.1) x3.2.2.2 x3.2.2.1==amI (amP x3.1 x3.2.1) x3.2.2.1 x3.2.2.2)=true;rw [am7];simp)
  ·rfl
 ·exact absurd (show (amI (amP x3.1 x3.2.1) x3.2.2.1 x3.2.2.2==false)=false from w30) (by rw [ans (s:=amP x3.1 x3.2.1) (a:=x3.2.2.1) (b:=x3.2.2.2) w26];simp)
end
end GL
end Go.Proofs.YtclcgjhhehbdeaaGreatDoor
