/- Part 27 of the proof of a drawn law. -/
import Derived.Below
import Derived.Test.YtnkbdhldiinfdaaGreatDoorPah
import Derived.Test.YtnkbdhldiinfdaaGreatDoorPas
import Derived.Test.YtnkbdhldiinfdaaGreatDoorPat
import Derived.Test.YtnkbdhldiinfdaaGreatDoorPaz
set_option maxHeartbeats 20000000
set_option maxRecDepth 100000
set_option linter.all false
namespace Go.Proofs.YtnkbdhldiinfdaaGreatDoor
namespace GL
theorem WV {s:ay}{t:bf}(h:t.ok):(oE s t).length=t.many.toNat:=by
 unfold oE;rw [ZG5,fq h]
theorem TA.hur {s:ay}{t:bf}{n:Nat}(h:TA s t) (hw:s.wg n) (hn:n≤20000):Hur s:=by
 obtain⟨X,ha⟩:=h.acc
 exact⟨hw.mono hn,by have:=ha.cg;omega,λk=>⟨ZE0 (Int.natCast_nonneg _) (ha.sl k),ha.up k⟩⟩
end GL
end Go.Proofs.YtnkbdhldiinfdaaGreatDoor
namespace Go.Proofs.YtnkbdhldiinfdaaGreatDoor
open Go Go.RowKit
namespace GL
inductive Bys (W:World) (l:List Int):Value→Prop where
 |none (p:Option Addr) (cap:Nat) (h:l=[]):Bys W l (.slice p 0 cap)
 |some (b o cap:Nat) (cs:Array Value) (e:TypeId) (fr:Nat×Nat) (h1:W.heap[b]?=Option.some (.cells cs e fr)) (h2:l.length≤cap) (h3:win cs o (flat mf l)):Bys W l (.slice (Option.some ⟨b,o,Option.none⟩) l.length cap)
def W4 (W:World) (L:List Nat):bb:=λb=>if b∈L then (match W.heap[b]? with
 |some (.cells cs e fr)=>some (.ro cs e fr)
 |_=>none) else none
theorem ZQ {W:World}{L:List Nat}{b:Nat}{cs:Array Value}{e:TypeId}{fr:Nat×Nat}(h:W.heap[b]?=some (.cells cs e fr)) (hb:b∈L):W4 W L b=some (.ro cs e fr):=by
 unfold W4
 rw [if_pos hb,h]
theorem O8 {W:World}{L:List Nat}{b:Nat}{k:BK}(h:W4 W L b=some k):∃cs e fr,k= .ro cs e fr∧W.heap[b]?=some (.cells cs e fr):=by
 unfold W4 at h
 by_cases hb:b∈L
 ·rw [if_pos hb] at h
  split at h
  ·rename_i cs e fr he
   cases h
   exact⟨cs,e,fr,rfl,he⟩
  ·cases h
 ·rw [if_neg hb] at h;cases h
theorem aix {P:Program}{f:FuncId}{l:List Int}{v:Value}{W:World}{post:AV→List AV→Prop}(h:TC P f false [.s (.vw mf l)] [] post) (hp:∀r os,post r os→r= .s (.q true)) (hv:Bys W l v)
  (hg:∀g∈zU,∃cs e fr,W.heap[g.1]?=some (.cells cs e fr)∧g.2 cs):Calls P f #[v] W λe w'=>e= .returned (.bool true)∧Below W.heap.size W w':=by
 have key:∀L:List Nat,(∀g∈zU,g.1∈L)→(SV.vw mf l).rel (W4 W L) (λ_=>0) v→Calls P f #[v] W λe w'=>e= .returned (.bool true)∧Below W.heap.size W w':=by
  intro L hL hr
  have h1:=h W (W4 W L) (λ_=>0) [v] (λb k hk=>by
    obtain⟨cs,e,fr,rfl,he⟩:=O8 hk
    exact he) ⟨λb ek n cs hk=>(by obtain⟨_,_,_,hx,_⟩:=O8 hk;cases hx),λg hm=>(by
     obtain⟨cs,e,fr,h1,h2⟩:=hg g hm
     exact⟨cs,e,fr,ZQ h1 (hL g hm),h2⟩)⟩ ⟨hr,trivial⟩ (λav ha i hi=>(by
    rcases ZC7.1 ha with rfl
    cases hi)) ⟨ZA7 _,λi av hi=>(by simp at hi),λi j hi=>(by cases hi)⟩
  refine h1.mono λe w' ⟨v',r,os,T',β',he,hpo,c6,_,ha,_⟩=>?_
  have uK:=hp r os hpo
  subst uK
  have hv':v'= .bool true:=c6
  subst hv'
  refine⟨he,ha.os,ha.tape,ha.output,ha.gd,λb hb=>?_⟩
  cases hT:W4 W L b with
  |none=>exact ha.frame b hb (λi hi=>by cases hi) (by rw [hT];trivial)
  |some k=>
   obtain⟨cs,e',fr,rfl,hh⟩:=O8 hT
   have h2:=ha.typed b _ ((ha.new b hb).trans hT)
   rw [hh];exact h2
 cases hv with
 |none p cap h0=>exact key (zU.map (·.1)) (λg hm=>List.mem_map.2 ⟨g,hm,rfl⟩) (.inl ⟨h0,p,cap,rfl⟩)
 |some b o cap cs e fr h1 h2 h3=>
  exact key (b::zU.map (·.1)) (λg hm=>List.mem_cons_of_mem _ (List.mem_map.2 ⟨g,hm,rfl⟩)) (.inr ⟨b,o,cap,cs,e,fr,rfl,h2,ZQ h1 (List.mem_cons_self ..),h3⟩)
