/- FnTreeOk returns true for every code (its row lists package variables, tied by the card): part 33 of 39. -/
import Derived.Test.YtbfgjadbfjkcdaaGreatDoorPas
import Derived.Test.YtbfgjadbfjkcdaaGreatDoorPbf
set_option maxHeartbeats 20000000
set_option linter.all false
namespace Go.Proofs.YtbfgjadbfjkcdaaGreatDoor
namespace GL
theorem EY.at {r:List Int×Int} {n m p:Int} (h:EY r n) (h0:0≤p) (h1:p≤m):EY (r.1,p) m:=⟨h.len,h.iV,h0,h1⟩
theorem pk {z:Int×Int} {n p:Int} (hn:0 < n) (h:(z.1=0∨(0≤z.1∧z.1 < n))∧z.2=p+1):0≤z.1∧z.1 < n:=by
 rcases h.1 with h |h
 ·rw [h];exact ⟨Int.le_refl _,hn⟩
 ·exact h
theorem E9 {ek:EK} {l:List (EK.Ty ek)} {P:EK.Ty ek→Prop} (h0:P (EK.zero ek)) (h:∀x∈l,P x) (k:Nat):P (nth ek l k):=by
 by_cases hk:k < l.length
 ·exact h _ (bS hk)
 ·unfold nth;rw [List.getElem?_eq_none (by omega)];exact h0
def yh (r:List Int×Int):Prop:=EY r 990000
def VY (r:List Int×Int) (z:Int×Int):Prop:=(-1≤z.1∧z.1≤64)∧r.2≤z.2∧z.2≤r.2+2
def VH (r:List Int×Int) (z:Int×Int):AV:=.s (.int z.1)
def abe (r:List Int×Int) (z:Int×Int):List AV:=[.a [.vw kE r.1, .int z.2]]
def JU:Con where
 A:=[.b 0]
 B:=[.a [.vw kE, .int]]
 pre:=fun x b=>yh b
 α:=fun _ _=>Int×Int
 φ:=fun x b z=>VY b z
 r:=fun x b z=>VH b z
 o:=fun x b z=>abe b z
 nf:=0
set_option maxRecDepth 100000 in
theorem adY:Has Tryz.prog 85 JU:=by
 refine Has.ofE (fun _=>true) (fun _=>false) (fun _=>false) (l:=[(16,aX)]) ⟨c7,trivial⟩ (fn:=Tryz.f85) Tryz.func85 rfl (by decide) (cH rfl) ?_
 rintro _ ⟨(rb:List Int),(rp:Int)⟩ (hp:yh (rb,rp))
 show vc _ _ _ _ (entry [.s (.bp 0 0)] [.a [.vw kE rb, .int rp]]) _
 have hr:EY (rb,rp) 990000:=hp
 have hp0:0≤rp:=hr.p0
 have hp1:rp≤990000:=hr.p1
 refine ⟨⟨⟨tv,tv,tv⟩,?_,?_⟩,fun x1 w2=>⟨fun w3=>⟨tv,⟨⟨tv,tv,tv⟩,?_,?_⟩,fun x4 w5=>⟨⟨?_,?_⟩,?_,?_⟩⟩,fun w6=>⟨⟨⟨tv,tv,tv⟩,?_,?_⟩,fun x7 w8=>⟨⟨?_,?_⟩,?_⟩⟩⟩⟩
 all_goals first|refine au ?_|refine aw ?_|exact sa|(dsimp only [aX,cc];omega)|exact sb|(have e:x1.2=rp+1:=w2.2;exact hr.at (by omega) (by omega))|exact hr.at hp0 (by omega)|exact (pk (by decide) w5).1|exact (pk (by decide) w5).2|(show x4.1.toNat < 6;have h:=pk (n:=6) (by decide) w5;omega)|(show (-9223372036854775808:Int)≤8+x7.1;have h:=pk (n:=12) (by decide) w8;omega)|(show 8+x7.1≤(9223372036854775807:Int);have h:=pk (n:=12) (by decide) w8;omega)|skip
 ·have e1:x1.2=rp+1:=w2.2
  have e2:x4.2=x1.2+1:=w5.2
  refine ⟨[],[],_,_,_,rfl,rr,(nth ae [-1,0,3,7,64,63] x4.1.toNat,x4.2),⟨E9 (ek:=ae) (P:=fun x:Int=> -1≤x∧x≤64) (by decide) (by decide) _,by show rp≤x4.2;omega,by show x4.2≤rp+2;omega⟩,rfl,rfl,rfl⟩
 ·have e1:x1.2=rp+1:=w2.2
  have e2:x7.2=x1.2+1:=w8.2
  have h:=pk (n:=12) (by decide) w8
  refine ⟨[],[],_,_,_,rfl,rr,(8+x7.1,x7.2),⟨⟨by show -1≤8+x7.1;omega,by show 8+x7.1≤64;omega⟩,by show rp≤x7.2;omega,by show x7.2≤rp+2;omega⟩,rfl,rfl,rfl⟩
def aht:List ByteArray:=[⟨#[]⟩,⟨#[97]⟩,⟨#[47,47]⟩,⟨#[47,97,47]⟩,⟨#[47,65]⟩,⟨#[47,97,47,98,47,99,47,97,47,98]⟩,⟨#[47,97,98,99,100,101]⟩,⟨#[47,97,47,47,98]⟩]
def ahs:List ByteArray:=[⟨#[47,97]⟩,⟨#[47,98]⟩,⟨#[47,97,47,98]⟩,⟨#[47,97,47,99]⟩,⟨#[47,98,47,97]⟩,⟨#[47,99]⟩,⟨#[47,97,47,98,47,99]⟩,⟨#[47,99,47,97]⟩,⟨#[47,97,98]⟩,⟨#[47]⟩]
def vb (r:List Int×Int):Prop:=EY r 990000
def jf (r:List Int×Int) (z:ByteArray×Int):Prop:=z.1.size≤12∧r.2≤z.2∧z.2≤r.2+2
def Q6 (r:List Int×Int) (z:ByteArray×Int):AV:=.s (.str z.1)
def V6 (r:List Int×Int) (z:ByteArray×Int):List AV:=[.a [.vw kE r.1, .int z.2]]
def jR:Con where
 A:=[.b 0]
 B:=[.a [.vw kE, .int]]
 pre:=fun x b=>vb b
 α:=fun _ _=>ByteArray×Int
 φ:=fun x b z=>jf b z
 r:=fun x b z=>Q6 b z
 o:=fun x b z=>V6 b z
 nf:=0
set_option maxRecDepth 100000 in
theorem abS:Has Tryz.prog 70 jR:=by
 refine Has.ofE (fun _=>true) (fun _=>false) (fun _=>false) (l:=[(16,aX)]) ⟨c7,trivial⟩ (fn:=Tryz.f70) Tryz.func70 rfl (by decide) (cH rfl) ?_
 rintro _ ⟨(rb:List Int),(rp:Int)⟩ (hp:vb (rb,rp))
 show vc _ _ _ _ (entry [.s (.bp 0 0)] [.a [.vw kE rb, .int rp]]) _
 have hr:EY (rb,rp) 990000:=hp
 have hp0:0≤rp:=hr.p0
 have hp1:rp≤990000:=hr.p1
 refine ⟨⟨⟨tv,tv,tv⟩,?_,?_⟩,fun x1 w2=>⟨fun w3=>⟨tv,⟨⟨tv,tv,tv⟩,?_,?_⟩,fun x4 w5=>⟨⟨?_,?_⟩,?_,?_⟩⟩,fun w6=>⟨tv,⟨⟨tv,tv,tv⟩,?_,?_⟩,fun x7 w8=>⟨⟨?_,?_⟩,?_,?_⟩⟩⟩⟩
 all_goals first|refine au ?_|refine aw ?_|exact sa|(dsimp only [aX,cc];omega)|exact sb|(have e:x1.2=rp+1:=w2.2;exact hr.at (by omega) (by omega))|exact hr.at hp0 (by omega)|exact (pk (by decide) w5).1|exact (pk (by decide) w5).2|exact (pk (by decide) w8).1|exact (pk (by decide) w8).2|(show x4.1.toNat < 8;have h:=pk (n:=8) (by decide) w5;omega)|(show x7.1.toNat < 10;have h:=pk (n:=10) (by decide) w8;omega)|skip
 ·have e1:x1.2=rp+1:=w2.2
  have e2:x4.2=x1.2+1:=w5.2
  refine ⟨[],[],_,_,_,rfl,rr,(nth aa aht x4.1.toNat,x4.2),⟨E9 (ek:=aa) (P:=fun x:ByteArray=>x.size≤12) (by decide) (by decide) _,by show rp≤x4.2;omega,by show x4.2≤rp+2;omega⟩,rfl,rfl,rfl⟩
 ·have e1:x1.2=rp+1:=w2.2
  have e2:x7.2=x1.2+1:=w8.2
  refine ⟨[],[],_,_,_,rfl,rr,(nth aa ahs x7.1.toNat,x7.2),⟨E9 (ek:=aa) (P:=fun x:ByteArray=>x.size≤12) (by decide) (by decide) _,by show rp≤x7.2;omega,by show x7.2≤rp+2;omega⟩,rfl,rfl,rfl⟩
def yk (s:ByteArray) (n:Int):Prop:=s.size≤1000∧0≤n∧n≤1000
def kK (s:ByteArray) (n:Int) (z:ByteArray):Prop:=z.size=s.size * n.toNat
def VP (s:ByteArray) (n:Int) (z:ByteArray):AV:=.s (.str z)
def abm (s:ByteArray) (n:Int) (z:ByteArray):List AV:=[]
def mc:Con where
 A:=[.s .str, .s .int]
 B:=[]
 pre:=fun x b=>yk (x.1) (x.2)
 α:=fun _ _=>ByteArray
 φ:=fun x b z=>kK (x.1) (x.2) z
 r:=fun x b z=>VP (x.1) (x.2) z
 o:=fun x b z=>abm (x.1) (x.2) z
 nf:=0
set_option maxRecDepth 100000 in
theorem ad3:Has Tryz.prog 71 mc:=by
 refine Has.ofE (fun _=>true) (fun _=>false) (fun _=>false) (l:=[]) trivial (fn:=Tryz.f71) Tryz.func71 rfl (by decide) (cH rfl) ?_
 rintro ⟨(s:ByteArray),(n:Int)⟩ _ (hp:yk s n)
 show vc _ _ _ _ (entry [.str s, .int n] []) _
 obtain ⟨hs,(h0:0≤n),(h1:n≤1000)⟩:=hp
 have hb:s.size * n.toNat≤1000000:=Nat.le_trans (Nat.mul_le_mul hs (show n.toNat≤1000 by omega)) (by decide)
 refine ?_
 all_goals first|refine au ?_|refine aw ?_|exact sa|exact sb|skip
 refine cI (l:=[]) (ex:=fun _=>true) (wr:=fun _=>false) (pt:=fun _=>false) trivial [] (fun y:ByteArray×Int×ByteArray=>[(.s 0, .str y.1),(.s 1, .int y.2.1),(.s 5, .str y.2.2)]) (fun y=>0≤y.2.1∧y.2.1≤1000∧y.2.2.size+y.1.size * y.2.1.toNat=s.size * n.toNat) (fun y=>y.2.1.toNat) (s,n,⟨#[]⟩) [] ⟨h0,h1,by show 0+s.size * n.toNat=s.size * n.toNat;omega⟩ ru ?_
 rintro ⟨t,m,out⟩ ⟨(g0:0≤m),(g1:m≤1000),(g2:out.size+t.size * m.toNat=s.size * n.toNat)⟩
 have hm:decide (m > 0)=true→t.size≤1000000:=fun h=>by
  have h3:=cw h
  have:t.size * 1≤t.size * m.toNat:=Nat.mul_le_mul_left _ (by omega)
  omega
 have ho:out.size≤1000000:=by omega
 have e2:∀q:Nat,t.size * (2 * q)=(t.size+t.size) * q:=fun q=>by rw [Nat.mul_comm 2 q,←Nat.mul_assoc,Nat.add_mul];omega
 refine ⟨fun w1=>⟨⟨?_,?_⟩,⟨fun w2=>⟨?_,⟨?_,⟨⟨?_,⟨?_,?_⟩⟩,?_⟩⟩⟩,fun w3=>⟨?_,⟨⟨?_,⟨?_,?_⟩⟩,?_⟩⟩⟩⟩,fun w4=>?_⟩
 all_goals first|refine au ?_|refine aw ?_|exact sa|exact sb|(show ((out.size+t.size:Nat):Int)≤9223372036854775807;have:=hm w1;omega)|(show ((t.size+t.size:Nat):Int)≤9223372036854775807;have:=hm w1;omega)|skip
 ·have h1:=cw (p:=m > 0) w1
  have h2:=cw (p:=m % 2=1) w2
  have e:m.tdiv 2=m / 2:=Int.tdiv_eq_ediv_of_nonneg g0
  refine ⟨(t++t,m / 2,out++t),[],?_,?_,?_⟩
  rotate_right
  ·exact rq
  ·refine ⟨by show 0≤m / 2;omega,by show m / 2≤1000;omega,?_⟩
   show (out++t).size+(t++t).size * (m / 2).toNat=_
   rw [ByteArray.size_append,ByteArray.size_append,←g2,←e2,show m.toNat=2 * (m / 2).toNat+1 by omega,Nat.mul_add];omega
  ·show (m / 2).toNat < m.toNat;omega
 ·have h1:=cw (p:=m > 0) w1
  have h2:=ca (p:=m % 2=1) w3
  refine ⟨(t++t,m / 2,out),[],?_,?_,?_⟩
  rotate_right
  ·exact rq
  ·refine ⟨by show 0≤m / 2;omega,by show m / 2≤1000;omega,?_⟩
   show out.size+(t++t).size * (m / 2).toNat=_
   rw [ByteArray.size_append,←g2,←e2,show m.toNat=2 * (m / 2).toNat by omega]
  ·show (m / 2).toNat < m.toNat;omega
 ·have h1:=ca (p:=m > 0) w4
  refine ⟨[],[],_,_,_,rfl,rr,out,show out.size=s.size * n.toNat by rw [←g2,show m.toNat=0 by omega];omega,rfl,rfl,rfl⟩
end GL
namespace GL
def pL (r:List Int×Int):Prop:=EY r 980000
def p8 (r:List Int×Int) (z:Pt×Int):Prop:=r.2≤z.2∧z.2≤r.2+1010
def VI (r:List Int×Int) (z:Pt×Int):AV:=.o (ptA z.1)
def abf (r:List Int×Int) (z:Pt×Int):List AV:=[.a [.vw kE r.1, .int z.2]]
def ju:Con where
 A:=[.b 0]
 B:=[.a [.vw kE, .int]]
 pre:=fun x b=>pL b
 α:=fun _ _=>Pt×Int
 φ:=fun x b z=>p8 b z
 r:=fun x b z=>VI b z
 o:=fun x b z=>abf b z
 nf:=0
set_option maxRecDepth 100000 in
theorem IE:Has Tryz.prog 52 ju:=by
 refine Has.ofE (fun _=>true) (fun _=>false) (fun _=>false) (l:=[(16,aX),(19,cN),(53,oR),(85,JU)]) ⟨c7,oY,FG,adY,trivial⟩ (fn:=Tryz.f52) Tryz.func52 rfl (by decide) (cH rfl) ?_
 rintro _ ⟨(rb:List Int),(rp:Int)⟩ (hp:pL (rb,rp))
 show vc _ _ _ _ (entry [.s (.bp 0 0)] [.a [.vw kE rb, .int rp]]) _
 have hr:EY (rb,rp) 980000:=hp
 have hp0:0≤rp:=hr.p0
 have hp1:rp≤980000:=hr.p1
 refine ⟨⟨⟨tv,tv,tv⟩,?_,?_⟩,fun x1 w2=>⟨fun w3=>?_,fun w4=>⟨⟨⟨tv,tv,tv⟩,?_,?_⟩,fun x5 w6=>⟨⟨?_,?_⟩,⟨⟨tv,tv,tv⟩,?_,?_⟩,fun x7 w8=>⟨⟨?_,?_⟩,⟨⟨tv,tv,tv⟩,?_,?_⟩,fun x9 df=>⟨⟨⟨tv,tv,tv⟩,?_,?_,?_⟩,fun kx dC=>⟨?_,⟨⟨tv,tv,tv,tv,tv⟩,?_⟩,fun rP gx=>⟨⟨⟨tv,tv,tv⟩,?_,?_⟩,fun ku j9=>⟨fun wu=>⟨⟨⟨tv,tv⟩,?_⟩,fun qy ot=>?_⟩,fun um=>⟨fun zg=>⟨tv,⟨⟨tv,tv,tv⟩,?_,?_⟩,fun x22 xv=>⟨⟨?_,?_⟩,?_,?_⟩⟩,fun rl=>⟨fun w25=>⟨tv,⟨⟨tv,tv,tv⟩,?_,?_⟩,fun x26 w27=>⟨⟨?_,?_⟩,?_,?_⟩⟩,fun w28=>⟨fun w29=>⟨tv,⟨⟨tv,tv,tv⟩,?_,?_⟩,fun x30 w31=>⟨⟨?_,?_⟩,?_,?_⟩⟩,fun w32=>⟨fun w33=>⟨tv,⟨⟨tv,tv,tv⟩,?_,?_⟩,fun x34 w35=>⟨⟨?_,?_⟩,?_,?_⟩⟩,fun w36=>?_⟩⟩⟩⟩⟩⟩⟩⟩⟩⟩⟩⟩⟩
 all_goals first|refine au ?_|refine aw ?_|exact sa|(dsimp only [aX,cc];omega)|(dsimp only [cN,gW];omega)|(dsimp only [oR,mL];omega)|(dsimp only [JU,yh];omega)|exact sb|(simp only [gD];have h:=pk (n:=12) (by decide) w6;omega)|(simp only [imax];have h:=pk (n:=12) (by decide) w6;omega)|(simp only [gD];have h:=pk (n:=9) (by decide) w8;omega)|(simp only [imax];have h:=pk (n:=9) (by decide) w8;omega)|(unfold imax;have h:(kx.1.size:Int)≤9:=dC.1;have h2:(⟨#[116]⟩:ByteArray).size=1:=rfl;omega)|(have e1:x1.2=rp+1:=w2.2;have e5:x5.2=x1.2+1:=w6.2;have e7:x7.2=x5.2+1:=w8.2;have e9:x9.2=x7.2+1:=df.2;have e11:x9.2≤kx.2∧kx.2≤x9.2+1000:=dC.2;have e15:ku.2=kx.2+1:=j9.2;exact hr.at (by omega) (by omega))|(have e1:x1.2=rp+1:=w2.2;have e5:x5.2=x1.2+1:=w6.2;have e7:x7.2=x5.2+1:=w8.2;have e9:x9.2=x7.2+1:=df.2;have e11:x9.2≤kx.2∧kx.2≤x9.2+1000:=dC.2;exact hr.at (by omega) (by omega))|(have e1:x1.2=rp+1:=w2.2;have e5:x5.2=x1.2+1:=w6.2;have e7:x7.2=x5.2+1:=w8.2;have e9:x9.2=x7.2+1:=df.2;exact hr.at (by omega) (by omega))|(have e1:x1.2=rp+1:=w2.2;have e5:x5.2=x1.2+1:=w6.2;have e7:x7.2=x5.2+1:=w8.2;exact hr.at (by omega) (by omega))|(have e1:x1.2=rp+1:=w2.2;have e5:x5.2=x1.2+1:=w6.2;exact hr.at (by omega) (by omega))|(have e1:x1.2=rp+1:=w2.2;exact hr.at (by omega) (by omega))|(exact hr.at (by omega) (by omega))|exact (pk (by decide) xv).1|exact (pk (by decide) xv).2|(show x22.1.toNat < 4;have h:=pk (n:=4) (by decide) xv;omega)|exact (pk (by decide) w27).1|exact (pk (by decide) w27).2|(show x26.1.toNat < 4;have h:=pk (n:=4) (by decide) w27;omega)|exact (pk (by decide) w31).1|exact (pk (by decide) w31).2|(show x30.1.toNat < 4;have h:=pk (n:=4) (by decide) w31;omega)|exact (pk (by decide) w35).1|exact (pk (by decide) w35).2|(show x34.1.toNat < 3;have h:=pk (n:=3) (by decide) w35;omega)|skip
 ·refine ⟨[],[],_,_,_,rfl,rr,((_,_,_,_,_),x1.2),⟨(by have e1:x1.2=rp+1:=w2.2;show rp≤x1.2;omega),(by have e1:x1.2=rp+1:=w2.2;show x1.2≤rp+1010;omega)⟩,rfl,rfl,rfl⟩
 ·have h:(kx.1.size:Int)≤9:=dC.1
  have h3:((⟨#[116]⟩++kx.1:ByteArray).size:Int)≤1000000000000:=by
   rw [ByteArray.size_append]
   have h2:(⟨#[116]⟩:ByteArray).size=1:=rfl
   omega
  exact h3
 ·refine ⟨[],[],_,_,_,rfl,rr,((_,_,_,_,_),qy.2),⟨(by have e1:x1.2=rp+1:=w2.2;have e5:x5.2=x1.2+1:=w6.2;have e7:x7.2=x5.2+1:=w8.2;have e9:x9.2=x7.2+1:=df.2;have e11:x9.2≤kx.2∧kx.2≤x9.2+1000:=dC.2;have e15:ku.2=kx.2+1:=j9.2;have e18:ku.2≤qy.2∧qy.2≤ku.2+2:=ot.2;show rp≤qy.2;omega),(by have e1:x1.2=rp+1:=w2.2;have e5:x5.2=x1.2+1:=w6.2;have e7:x7.2=x5.2+1:=w8.2;have e9:x9.2=x7.2+1:=df.2;have e11:x9.2≤kx.2∧kx.2≤x9.2+1000:=dC.2;have e15:ku.2=kx.2+1:=j9.2;have e18:ku.2≤qy.2∧qy.2≤ku.2+2:=ot.2;show qy.2≤rp+1010;omega)⟩,rfl,rfl,rfl⟩
 ·refine ⟨[],[],_,_,_,rfl,rr,((_,(nth ae [0,-1,900,901] x22.1.toNat:Int),_,_,_),x22.2),⟨(by have e1:x1.2=rp+1:=w2.2;have e5:x5.2=x1.2+1:=w6.2;have e7:x7.2=x5.2+1:=w8.2;have e9:x9.2=x7.2+1:=df.2;have e11:x9.2≤kx.2∧kx.2≤x9.2+1000:=dC.2;have e15:ku.2=kx.2+1:=j9.2;have e22:x22.2=ku.2+1:=xv.2;show rp≤x22.2;omega),(by have e1:x1.2=rp+1:=w2.2;have e5:x5.2=x1.2+1:=w6.2;have e7:x7.2=x5.2+1:=w8.2;have e9:x9.2=x7.2+1:=df.2;have e11:x9.2≤kx.2∧kx.2≤x9.2+1000:=dC.2;have e15:ku.2=kx.2+1:=j9.2;have e22:x22.2=ku.2+1:=xv.2;show x22.2≤rp+1010;omega)⟩,rfl,rfl,rfl⟩
 ·refine ⟨[],[],_,_,_,rfl,rr,((_,_,(nth ae [0,-1,128,129] x26.1.toNat:Int),_,_),x26.2),⟨(by have e1:x1.2=rp+1:=w2.2;have e5:x5.2=x1.2+1:=w6.2;have e7:x7.2=x5.2+1:=w8.2;have e9:x9.2=x7.2+1:=df.2;have e11:x9.2≤kx.2∧kx.2≤x9.2+1000:=dC.2;have e15:ku.2=kx.2+1:=j9.2;have e26:x26.2=ku.2+1:=w27.2;show rp≤x26.2;omega),(by have e1:x1.2=rp+1:=w2.2;have e5:x5.2=x1.2+1:=w6.2;have e7:x7.2=x5.2+1:=w8.2;have e9:x9.2=x7.2+1:=df.2;have e11:x9.2≤kx.2∧kx.2≤x9.2+1000:=dC.2;have e15:ku.2=kx.2+1:=j9.2;have e26:x26.2=ku.2+1:=w27.2;show x26.2≤rp+1010;omega)⟩,rfl,rfl,rfl⟩
 ·refine ⟨[],[],_,_,_,rfl,rr,((_,_,_,(nth ae [-1,99460728,99460729,0] x30.1.toNat:Int),_),x30.2),⟨(by have e1:x1.2=rp+1:=w2.2;have e5:x5.2=x1.2+1:=w6.2;have e7:x7.2=x5.2+1:=w8.2;have e9:x9.2=x7.2+1:=df.2;have e11:x9.2≤kx.2∧kx.2≤x9.2+1000:=dC.2;have e15:ku.2=kx.2+1:=j9.2;have e30:x30.2=ku.2+1:=w31.2;show rp≤x30.2;omega),(by have e1:x1.2=rp+1:=w2.2;have e5:x5.2=x1.2+1:=w6.2;have e7:x7.2=x5.2+1:=w8.2;have e9:x9.2=x7.2+1:=df.2;have e11:x9.2≤kx.2∧kx.2≤x9.2+1000:=dC.2;have e15:ku.2=kx.2+1:=j9.2;have e30:x30.2=ku.2+1:=w31.2;show x30.2≤rp+1010;omega)⟩,rfl,rfl,rfl⟩
 ·refine ⟨[],[],_,_,_,rfl,rr,((_,_,_,_,(nth ae [-1,3,2] x34.1.toNat:Int)),x34.2),⟨(by have e1:x1.2=rp+1:=w2.2;have e5:x5.2=x1.2+1:=w6.2;have e7:x7.2=x5.2+1:=w8.2;have e9:x9.2=x7.2+1:=df.2;have e11:x9.2≤kx.2∧kx.2≤x9.2+1000:=dC.2;have e15:ku.2=kx.2+1:=j9.2;have e34:x34.2=ku.2+1:=w35.2;show rp≤x34.2;omega),(by have e1:x1.2=rp+1:=w2.2;have e5:x5.2=x1.2+1:=w6.2;have e7:x7.2=x5.2+1:=w8.2;have e9:x9.2=x7.2+1:=df.2;have e11:x9.2≤kx.2∧kx.2≤x9.2+1000:=dC.2;have e15:ku.2=kx.2+1:=j9.2;have e34:x34.2=ku.2+1:=w35.2;show x34.2≤rp+1010;omega)⟩,rfl,rfl,rfl⟩
 ·refine ⟨[],[],_,_,_,rfl,rr,((_,_,_,_,_),ku.2),⟨(by have e1:x1.2=rp+1:=w2.2;have e5:x5.2=x1.2+1:=w6.2;have e7:x7.2=x5.2+1:=w8.2;have e9:x9.2=x7.2+1:=df.2;have e11:x9.2≤kx.2∧kx.2≤x9.2+1000:=dC.2;have e15:ku.2=kx.2+1:=j9.2;show rp≤ku.2;omega),(by have e1:x1.2=rp+1:=w2.2;have e5:x5.2=x1.2+1:=w6.2;have e7:x7.2=x5.2+1:=w8.2;have e9:x9.2=x7.2+1:=df.2;have e11:x9.2≤kx.2∧kx.2≤x9.2+1000:=dC.2;have e15:ku.2=kx.2+1:=j9.2;show ku.2≤rp+1010;omega)⟩,rfl,rfl,rfl⟩
end GL
namespace GL
def r5 (r:List Int×Int):Prop:=EY r 980000
def aa3 (r:List Int×Int) (z:Opr×Int):Prop:=(z.1.2.1.size≤30∧z.1.2.2.1.size≤30∧z.1.2.2.2.2.size≤30)∧r.2≤z.2∧z.2≤r.2+1020
def aaU (r:List Int×Int) (z:Opr×Int):AV:=.o (.a [.int z.1.1, .str z.1.2.1, .str z.1.2.2.1, .int z.1.2.2.2.1, .str z.1.2.2.2.2])
def adb (r:List Int×Int) (z:Opr×Int):List AV:=[.a [.vw kE r.1, .int z.2]]
def tW:Con where
 A:=[.b 0]
 B:=[.a [.vw kE, .int]]
 pre:=fun x b=>r5 b
 α:=fun _ _=>Opr×Int
 φ:=fun x b z=>aa3 b z
 r:=fun x b z=>aaU b z
 o:=fun x b z=>adb b z
 nf:=0
set_option maxRecDepth 100000 in
theorem PC:Has Tryz.prog 43 tW:=by
 refine Has.ofE (fun _=>true) (fun _=>false) (fun _=>false) (l:=[(16,aX),(70,jR),(19,cN),(71,mc)]) ⟨c7,abS,oY,ad3,trivial⟩ (fn:=Tryz.f43) Tryz.func43 rfl (by decide) (cH rfl) ?_
 rintro _ ⟨(rb:List Int),(rp:Int)⟩ (hp:r5 (rb,rp))
 show vc _ _ _ _ (entry [.s (.bp 0 0)] [.a [.vw kE rb, .int rp]]) _
 have hr:EY (rb,rp) 980000:=hp
 have hp0:0≤rp:=hr.p0
 have hp1:rp≤980000:=hr.p1
 refine ⟨[.b 1004],[.s 4, .b 1004],rfl,tv,[.s 0],[.s 5],rfl,[.s 5, .b 0],[.s 6, .b 0],rfl,⟨⟨tv,tv,tv⟩,?_,?_⟩,?_,fun x1 w2=>⟨[.s 4, .s 6],[.s 7],rfl,⟨?_,?_⟩,[.s 7, .b 1004],[.s 8],rfl,?_,[.s 0],[.s 9],rfl,[.s 9, .b 0],[.s 10, .b 0],rfl,⟨⟨tv,tv⟩,?_⟩,?_,fun x3 w4=>⟨[.s 8, .s 10],[.s 11],rfl,[.b 1003],[.s 3, .b 1003],rfl,[.s 3, .s 11, .b 1003],[.b 1003],rfl,fun w5=>⟨tv,⟨⟨tv,tv,tv⟩,?_,?_⟩,fun x6 w7=>⟨⟨?_,?_⟩,?_,⟨⟨tv,tv,tv⟩,?_,?_,?_⟩,fun x8 w9=>⟨⟨⟨tv,tv,tv⟩,?_,?_⟩,fun x10 ka=>⟨fun dC=>⟨tv,⟨⟨tv,tv,tv⟩,?_,?_⟩,fun rP gx=>⟨⟨?_,?_⟩,?_,?_⟩⟩,fun oU=>⟨fun j9=>⟨tv,⟨⟨tv,tv,tv⟩,?_,?_⟩,fun x17 qI=>⟨⟨?_,?_⟩,?_,?_⟩⟩,fun ot=>⟨fun um=>⟨⟨⟨tv,tv,tv⟩,?_,?_⟩,fun x21 zf=>⟨⟨?_,?_⟩,⟨⟨tv,tv,tv⟩,?_,?_,?_⟩,fun x23 rl=>?_⟩⟩,fun w25=>⟨fun EL=>⟨⟨⟨tv,tv⟩,?_⟩,fun x27 w28=>?_⟩,fun w29=>?_⟩⟩⟩⟩⟩⟩⟩,fun w30=>⟨fun w31=>⟨tv,⟨⟨tv,tv,tv⟩,?_,?_⟩,fun x32 w33=>⟨⟨?_,?_⟩,?_,⟨⟨tv,tv,tv⟩,?_,?_⟩,fun x34 w35=>⟨fun w36=>⟨tv,⟨⟨tv,tv,tv⟩,?_,?_⟩,fun x37 w38=>⟨⟨?_,?_⟩,?_,?_⟩⟩,fun w39=>⟨fun w40=>⟨tv,⟨⟨tv,tv,tv⟩,?_,?_⟩,fun x41 w42=>⟨⟨?_,?_⟩,?_,?_⟩⟩,fun w43=>⟨fun w44=>⟨⟨⟨tv,tv,tv⟩,?_,?_⟩,fun x45 w46=>⟨⟨?_,?_⟩,⟨⟨tv,tv,tv⟩,?_,?_,?_⟩,fun x47 w48=>?_⟩⟩,fun w49=>⟨fun w50=>⟨⟨⟨tv,tv⟩,?_⟩,fun x51 w52=>?_⟩,fun w53=>?_⟩⟩⟩⟩⟩⟩,fun w54=>⟨fun w55=>⟨fun w56=>⟨⟨⟨tv,tv⟩,?_⟩,fun x57 w58=>⟨⟨⟨tv,tv,tv⟩,?_,?_⟩,fun x59 w60=>⟨fun w61=>⟨tv,⟨⟨tv,tv,tv⟩,?_,?_⟩,fun x62 w63=>⟨⟨?_,?_⟩,?_,?_⟩⟩,fun w64=>⟨fun w65=>⟨tv,⟨⟨tv,tv,tv⟩,?_,?_⟩,fun x66 w67=>⟨⟨?_,?_⟩,?_,?_⟩⟩,fun w68=>⟨fun w69=>⟨⟨⟨tv,tv,tv⟩,?_,?_⟩,fun x70 w71=>⟨⟨?_,?_⟩,⟨⟨tv,tv,tv⟩,?_,?_,?_⟩,fun x72 w73=>?_⟩⟩,fun w74=>⟨fun w75=>⟨⟨⟨tv,tv⟩,?_⟩,fun x76 w77=>?_⟩,fun w78=>?_⟩⟩⟩⟩⟩⟩,fun w79=>⟨⟨⟨tv,tv,tv⟩,?_,?_⟩,fun x80 w81=>⟨fun w82=>⟨tv,⟨⟨tv,tv,tv⟩,?_,?_⟩,fun x83 w84=>⟨⟨?_,?_⟩,?_,?_⟩⟩,fun w85=>⟨fun w86=>⟨tv,⟨⟨tv,tv,tv⟩,?_,?_⟩,fun x87 w88=>⟨⟨?_,?_⟩,?_,?_⟩⟩,fun w89=>⟨fun w90=>⟨⟨⟨tv,tv,tv⟩,?_,?_⟩,fun x91 w92=>⟨⟨?_,?_⟩,⟨⟨tv,tv,tv⟩,?_,?_,?_⟩,fun x93 w94=>?_⟩⟩,fun w95=>⟨fun w96=>⟨⟨⟨tv,tv⟩,?_⟩,fun x97 w98=>?_⟩,fun w99=>?_⟩⟩⟩⟩⟩⟩,fun alY=>⟨fun ako=>⟨⟨⟨tv,tv⟩,?_⟩,fun akm alW=>⟨⟨⟨tv,tv,tv⟩,?_,?_⟩,fun akl alV=>⟨fun alU=>⟨tv,⟨⟨tv,tv,tv⟩,?_,?_⟩,fun akk alT=>⟨⟨?_,?_⟩,?_,?_⟩⟩,fun alS=>⟨fun alR=>⟨tv,⟨⟨tv,tv,tv⟩,?_,?_⟩,fun akj alQ=>⟨⟨?_,?_⟩,?_,?_⟩⟩,fun alP=>⟨fun alO=>⟨⟨⟨tv,tv,tv⟩,?_,?_⟩,fun aki alN=>⟨⟨?_,?_⟩,⟨⟨tv,tv,tv⟩,?_,?_,?_⟩,fun akh alM=>?_⟩⟩,fun alL=>⟨fun alK=>⟨⟨⟨tv,tv⟩,?_⟩,fun akg alJ=>?_⟩,fun alI=>?_⟩⟩⟩⟩⟩⟩,fun alH=>⟨⟨⟨tv,tv,tv⟩,?_,?_⟩,fun akf alG=>⟨fun alF=>⟨tv,⟨⟨tv,tv,tv⟩,?_,?_⟩,fun ake alE=>⟨⟨?_,?_⟩,?_,?_⟩⟩,fun alD=>⟨fun alC=>⟨tv,⟨⟨tv,tv,tv⟩,?_,?_⟩,fun akd alB=>⟨⟨?_,?_⟩,?_,?_⟩⟩,fun alA=>⟨fun alz=>⟨⟨⟨tv,tv,tv⟩,?_,?_⟩,fun akc aly=>⟨⟨?_,?_⟩,⟨⟨tv,tv,tv⟩,?_,?_,?_⟩,fun akb alx=>?_⟩⟩,fun alw=>⟨fun alv=>⟨⟨⟨tv,tv⟩,?_⟩,fun aka alu=>?_⟩,fun als=>?_⟩⟩⟩⟩⟩⟩⟩⟩⟩⟩⟩
 all_goals first|refine au ?_|refine aw ?_|exact sa|(dsimp only [aX,cc];omega)|(dsimp only [jR,vb];omega)|(dsimp only [cN,gW];omega)|(dsimp only [mc,yk];omega)|exact sb|exact hr.at hp0 (by omega)|(refine hr.at ?_ ?_<;>(dsimp only [aX,dH,jR,jf,cN,eZ,mc,kK,da] at * <;>omega))|(show _ < ((List.length _:Nat):Int);dsimp only [aX,dH,jR,jf,cN,eZ,mc,kK,da,List.length_cons,List.length_nil] at *;omega)|(show Int.toNat _ < _;dsimp only [aX,dH,jR,jf,cN,eZ,mc,kK,da,List.length_cons,List.length_nil] at *;omega)|(dsimp only [aX,dH,jR,jf,cN,eZ,mc,kK,da] at *;omega)|exact ⟨(0,rp+1), .inl rfl,rfl⟩|exact ⟨(⟨#[]⟩,x1.2),Nat.zero_le _,Int.le_refl _,(by show x1.2≤x1.2+2;omega)⟩|(simp only [gD,imax];dsimp only [aX,dH,jR,jf,cN,eZ,mc,kK,da] at *;omega)|(show (1:Nat)≤1000;omega)|skip
 all_goals
  first
   |refine ⟨[],[],_,_,_,rfl,GL.rp,(((_:EK.Ty ae),_,_,(_:EK.Ty ae),_),_),⟨⟨?_,?_,?_⟩,?_,?_⟩,rfl,rfl,rfl⟩
   |refine ⟨[],[],_,_,_,rfl,GL.rp,(((_:EK.Ty ae),_,_,_,_),_),⟨⟨?_,?_,?_⟩,?_,?_⟩,rfl,rfl,rfl⟩
  all_goals
   try cases x1
   try cases x3
   try cases x6
   try cases x8
   try cases x10
   try cases rP
   try cases x17
   try cases x21
   try cases x23
   try cases x27
   try cases x32
   try cases x34
   try cases x37
   try cases x41
   try cases x45
   try cases x47
   try cases x51
   try cases x57
   try cases x59
   try cases x62
   try cases x66
   try cases x70
   try cases x72
   try cases x76
   try cases x80
   try cases x83
   try cases x87
   try cases x91
   try cases x93
   try cases x97
   try cases akm
   try cases akl
   try cases akk
   try cases akj
   try cases aki
   try cases akh
   try cases akg
   try cases akf
   try cases ake
   try cases akd
   try cases akc
   try cases akb
   try cases aka
  all_goals (dsimp only [aX,dH,jR,jf,cN,eZ,mc,kK,da] at *;first |omega |exact Nat.zero_le _ |(simp only [show (⟨#[117]⟩:ByteArray).size=1 from rfl,Nat.one_mul] at *;omega))
end GL
end Go.Proofs.YtbfgjadbfjkcdaaGreatDoor
