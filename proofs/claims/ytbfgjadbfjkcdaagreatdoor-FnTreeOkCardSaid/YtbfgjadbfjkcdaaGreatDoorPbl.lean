/- FnTreeOk returns true for every code (its row lists package variables, tied by the card): part 38 of 39. -/
import Derived.Test.YtbfgjadbfjkcdaaGreatDoorPar
import Derived.Test.YtbfgjadbfjkcdaaGreatDoorPbf
import Derived.Test.YtbfgjadbfjkcdaaGreatDoorPbg
import Derived.Test.YtbfgjadbfjkcdaaGreatDoorPbk
set_option maxHeartbeats 20000000
set_option linter.all false
namespace Go.Proofs.YtbfgjadbfjkcdaaGreatDoor
namespace GL
theorem FS.gk {s:ax} {t:aZ} {n:Nat} (h:FS s t) (hw:s.wg n) (hn:n≤900000):s.gk where
 n:=h.fi.acc.wf.n
 len:=Nat.le_trans hw.g (by omega)
 ok:=fun p hp=>nT (h.fi.acc.ok p (by simp [hp])).1
 bY:=by have:=h.fi.acc.bY;omega
theorem FS.SU {s:ax} {t:aZ} {n:Nat} (h:FS s t) (hw:s.wg n) (hn:n≤900000):FS (gY s) t∧(gY s).wg (n+1):=
 ⟨h.next (by have:=hw.t;omega),SW h.fi.acc hw hn⟩
theorem HL {o:Opr} (h:ZH o=true):0≤o.2.2.2.1∧o.2.2.2.1≤192∧o.2.2.2.2.size≤24:=by
 unfold ZH SJ at h
 cases h1: !(ir o.1 1 7)||(!(fT o.2.1)||((SI o&& !(fT o.2.2.1))||(!(SI o)&&decide (o.2.2.1≠⟨#[]⟩)))) with
 |true=>rw [h1] at h;cases h
 |false=>
  rw [h1,cond_false] at h
  cases h2:(decide (o.1≠3)&&decide (o.2.2.2.2≠⟨#[]⟩))||decide ((o.2.2.2.2.size:Int) > 24) with
  |true=>rw [h2] at h;cases h
  |false=>
   rw [h2,cond_false] at h
   have h3:=ca (Bool.or_eq_false_iff.1 h2).2
   rcases Bool.or_eq_true_iff.1 h with h |h
   ·have:=cw h;omega
   ·have:=cn.1 (Bool.and_eq_true_iff.1 h).2;omega
theorem T9:∀k:Nat,(nth EJ qg k).2.1.size≤1000∧(nth EJ qg k).2.2.1.size≤1000∧0≤(nth EJ qg k).2.2.2.1∧(nth EJ qg k).2.2.2.1≤192∧(nth EJ qg k).2.2.2.2.size≤1000
 |0 |1 |2 |3 |4 |5=>by decide
 |k+6=>by rw [tq (ek:=EJ) (by show 6≤k+6;omega)];decide
def lL (r:List Int×Int):Prop:=EY r 900000
def OH (r:List Int×Int) (z:ax×aZ×Int):Prop:=FS z.1 z.2.1∧z.1.wg 10000∧r.2≤z.2.2∧z.2.2≤r.2+20000
def N7 (r:List Int×Int) (z:ax×aZ×Int):AV:=.t [.a (lA 1 2 3 4 5 z.1),trA z.2.1]
def R6 (r:List Int×Int) (z:ax×aZ×Int):List AV:=[.a [.vw kE r.1, .int z.2.2], .rs aa z.1.rows, .rs ae z.1.refs, .rs ae z.1.last, .rs ab z.1.gone, .rs ab z.1.dead]
def kO:Con where
 A:=[.b 0]
 B:=[.a [.vw kE, .int]]
 pre:=fun x b=>lL b
 α:=fun _ _=>ax×aZ×Int
 φ:=fun x b z=>OH b z
 r:=fun x b z=>N7 b z
 o:=fun x b z=>R6 b z
 nf:=5
set_option maxRecDepth 100000 in
theorem yJ:Has Tryz.prog 15 kO:=by
 refine Has.ofE (fun _=>true) (fun _=>false) (fun _=>false) (l:=[(16,aX),(40,kS),(39,kU),(41,kN),(42,uc),(43,tW),(44,za),(20,gT)]) ⟨c7,yN,yO,yI,PI,PC,XK,ss,trivial⟩ (fn:=Tryz.f15) Tryz.func15 rfl (by decide) (cH rfl) ?_
 rintro _ ⟨(rb:List Int),(rp:Int)⟩ (hp:lL (rb,rp))
 show vc _ _ _ _ (entry [.s (.bp 0 0)] [.a [.vw kE rb, .int rp]]) _
 have hr:EY (rb,rp) 900000:=hp
 have hp0:0≤rp:=hr.p0
 have hp1:rp≤900000:=hr.p1
 refine ⟨⟨⟨tv,tv,tv⟩,?_,?_⟩,fun x1 w2=>⟨⟨⟨tv,tv⟩,tv⟩,fun x3 w4=>⟨⟨⟨⟨⟨?_,?_⟩,⟨?_,?_⟩,⟨?_,?_⟩,tv,⟨?_,?_⟩,tv,⟨?_,?_⟩,tv,tv⟩,tv⟩,?_⟩,fun x5 w6=>⟨⟨tv,tv⟩,fun x7 w8=>⟨⟨?_,?_⟩,⟨⟨tv,tv,tv⟩,?_,?_⟩,fun x9 df=>?_⟩⟩⟩⟩⟩
 all_goals first|refine au ?_|refine aw ?_|exact sa|(dsimp only [aX,cc];omega)|(dsimp only [kS,lP];omega)|(dsimp only [kU,lR];omega)|(dsimp only [kN,lK];omega)|(dsimp only [uc,r7];omega)|(dsimp only [tW,r5];omega)|(dsimp only [za,vk];omega)|(dsimp only [gT,jd];omega)|exact sb|exact hr.at (show 0≤rp by omega) (show rp≤_ by omega)|exact ⟨⟨_,rfl⟩⟩|(show ((6:Nat):Int)+1≤imax;decide)|(show ((6:Nat):Int)+1≤1000000;decide)|exact hr.at (show 0≤x1.2 by have e:x1.2=rp+1:=w2.2;omega) (show x1.2≤_ by have e:x1.2=rp+1:=w2.2;omega)|skip
 have e1:x1.2=rp+1:=w2.2
 have e5:x9.2=x1.2+1:=df.2
 have hk:0≤x9.1∧x9.1 < 7:=pk (n:=7) (by decide) df
 have hF0:FS x5.1 x5.2:=w6.1
 have hW0:x5.1.wg 10:=w6.2
 refine cI (l:=[(16,aX),(40,kS),(39,kU),(41,kN),(42,uc),(43,tW),(44,za),(20,gT)]) (ex:=fun _=>true) (wr:=fun _=>false) (pt:=fun _=>false) ⟨c7,yN,yO,yI,PI,PC,XK,ss,trivial⟩ [.s 0, .b 0, .s 2, .s 3, .b 1002, .b 1003, .s 4, .s 5, .s 7, .b 210000] (fun y:ax×aZ×Int=>[(.s 8, .int y.2.2),(.b 1004, .a (lA 1000000001 1000000002 1000000003 1000000004 1000000005 y.1)),(.b 1005, .a [.int y.2.1.1, .int y.2.1.2.1, .int y.2.1.2.2.1, .int y.2.1.2.2.2.1, .int y.2.1.2.2.2.2.1, .int y.2.1.2.2.2.2.2.1, .int y.2.1.2.2.2.2.2.2]),(.b 1000000001, .rs aa y.1.rows),(.b 1000000002, .rs ae y.1.refs),(.b 1000000003, .rs ae y.1.last),(.b 1000000004, .rs ab y.1.gone),(.b 1000000005, .rs ab y.1.dead)]) (fun y=>FS y.1 y.2.1∧y.1.wg (10+300 * (6 - y.2.2).toNat)∧0≤y.2.2∧y.2.2≤6) (fun y=>y.2.2.toNat) (x5.1,x5.2,x9.1) [(1000000001,170000),(1000000002,170001),(1000000003,170002),(1000000004,170003),(1000000005,170004)] ⟨hF0,hW0.mono (by omega),hk.1,by have:=hk.2;show x9.1≤6;omega⟩ ru ?_
 rintro ⟨u,tt,k⟩ ⟨(hF:FS u tt),(hW:u.wg (10+300 * (6 - k).toNat)),(hk0:0≤k),(hk6:k≤6)⟩
 have hop:=T9 (6 - k).toNat
 refine ⟨fun w1=>⟨[.s 4, .b 1004],[.s 31],rfl,[.s 5, .b 1005],[.s 32],rfl,[.s 7],[.s 33],rfl,[.s 7],[.s 34],rfl,[.s 34],[.s 35],rfl,[.s 8],[.s 36],rfl,[.s 35, .s 36],[.s 37],rfl,⟨?_,?_⟩,[.s 33, .s 37],[.s 38],rfl,⟨?_,?_⟩,[.s 38, .b 210000],[.s 39],rfl,?_,[.s 31, .s 32, .s 39, .b 1000000001, .b 1000000002, .b 1000000003, .b 1000000004, .b 1000000005, .b 1000410004, .b 1000410003, .b 1000410002, .b 1000410001, .b 1000410000],[.s 40, .b 1000000001, .b 1000000002, .b 1000000003, .b 1000000004, .b 1000000005, .b 1000410000, .b 1000410001, .b 1000410002, .b 1000410003, .b 1000410004],rfl,⟨⟨⟨tv,tv,tv,tv,tv,tv,tv,tv,tv⟩,⟨tv,tv,tv,tv,tv,tv,tv,tv⟩,⟨tv,tv,tv,tv,tv,tv⟩,tv⟩,⟨?_,?_,?_,?_,?_⟩,?_,?_,?_,?_,?_,?_,?_⟩,?_,fun x2 w3=>⟨[.s 40],[.s 30],rfl,[.s 30],[.s 41],rfl,[.s 30],[.s 42],rfl,[.s 30],[.s 43],rfl,[.s 4, .s 41, .b 1004],[.b 1004],rfl,[.s 5, .s 42, .b 1005],[.b 1005],rfl,⟨?_,?_⟩,?_⟩⟩,fun w4=>⟨⟨⟨tv,tv,tv⟩,?_,?_⟩,fun x5 w6=>?_⟩⟩
 all_goals first|refine au ?_|refine aw ?_|exact sa|(dsimp only [aX,cc];omega)|(dsimp only [kS,lP];omega)|(dsimp only [kU,lR];omega)|(dsimp only [kN,lK];omega)|(dsimp only [uc,r7];omega)|(dsimp only [tW,r5];omega)|(dsimp only [za,vk];omega)|(dsimp only [gT,jd];omega)|exact sb|exact hF|exact hW.mono (by omega)|exact hop.1|exact hop.2.1|exact hop.2.2.1|exact hop.2.2.2.1|exact hop.2.2.2.2|exact hr.at (show 0≤x9.2 by omega) (show x9.2≤_ by omega)|exact ⟨(u,tt,0),hF,fun n h=>h.mono (by omega)⟩|(show gD≤((6:Nat):Int) - k;unfold gD;omega)|(show ((6:Nat):Int) - k≤imax;unfold imax;omega)|(show 0≤((6:Nat):Int) - k;omega)|(show ((6:Nat):Int) - k < ((6:Nat):Int);have h:=cw (p:=k > 0) w1;omega)|(show (((6:Nat):Int) - k).toNat < 6;have h:=cw (p:=k > 0) w1;omega)|skip
 ·have ET:0 < k:=cw (p:=k > 0) w1
  have hG:FS x2.1 x2.2.1:=w3.1
  have hV:x2.1.wg (10+300 * (6 - k).toNat+300):=w3.2 _ hW
  refine ⟨(x2.1,x2.2.1,k - 1),[(1000000001,1000410000),(1000000002,1000410001),(1000000003,1000410002),(1000000004,1000410003),(1000000005,1000410004)],?_,?_,?_⟩
  rotate_right
  ·exact rq
  ·exact ⟨hG,hV.mono (by show 10+300 * (6 - k).toNat+300≤10+300 * (6 - (k - 1)).toNat;omega),by show 0≤k - 1;omega,by show k - 1≤6;omega⟩
  ·show (k - 1).toNat < k.toNat;omega
 ·have ET:¬k > 0:=ca (p:=k > 0) w4
  have e9:x5.2=x9.2+1:=w6.2
  have hm:0≤x5.1∧x5.1 < 12:=pk (n:=12) (by decide) w6
  refine cI (l:=[(16,aX),(40,kS),(39,kU),(41,kN),(42,uc),(43,tW),(44,za),(20,gT)]) (ex:=fun _=>true) (wr:=fun _=>false) (pt:=fun _=>false) ⟨c7,yN,yO,yI,PI,PC,XK,ss,trivial⟩ [.s 0, .s 2, .s 3, .b 1002, .b 1003, .s 4, .s 5] (fun y:ax×aZ×Int×Int=>[(.b 0, .a [.vw kE rb, .int y.2.2.2]),(.s 9, .int y.2.2.1),(.b 1004, .a (lA 1000000001 1000000002 1000000003 1000000004 1000000005 y.1)),(.b 1005, .a [.int y.2.1.1, .int y.2.1.2.1, .int y.2.1.2.2.1, .int y.2.1.2.2.2.1, .int y.2.1.2.2.2.2.1, .int y.2.1.2.2.2.2.2.1, .int y.2.1.2.2.2.2.2.2]),(.b 1000000001, .rs aa y.1.rows),(.b 1000000002, .rs ae y.1.refs),(.b 1000000003, .rs ae y.1.last),(.b 1000000004, .rs ab y.1.gone),(.b 1000000005, .rs ab y.1.dead)]) (fun y=>FS y.1 y.2.1∧y.1.wg (2000+301 * (11 - y.2.2.1).toNat)∧(0≤y.2.2.1∧y.2.2.1≤11)∧rp≤y.2.2.2∧y.2.2.2≤rp+3+1021 * (11 - y.2.2.1)) (fun y=>y.2.2.1.toNat) (u,tt,x5.1,x5.2) [] ⟨hF,hW.mono (by omega),⟨hm.1,by have:=hm.2;show x5.1≤11;omega⟩,by show rp≤x5.2;omega,by have:=hm.2;show x5.2≤rp+3+1021 * (11 - x5.1);omega⟩ ru ?_
  rintro ⟨u,tt,k,q⟩ ⟨(hF:FS u tt),(hW:u.wg (2000+301 * (11 - k).toNat)),⟨(hk0:0≤k),(hk3:k≤11)⟩,(hq0:rp≤q),(hq1:q≤rp+3+1021 * (11 - k))⟩
  refine ⟨fun w1=>⟨⟨⟨tv,tv⟩,?_⟩,fun x2 w3=>⟨⟨⟨⟨tv,tv,tv,tv,tv,tv⟩,tv⟩,?_,?_⟩,fun x4 w5=>⟨fun w6=>⟨⟨⟨⟨tv,tv,tv,tv,tv,tv,tv,tv,tv⟩,⟨tv,tv,tv,tv,tv,tv,tv,tv⟩,⟨tv,tv,tv,tv,tv,tv⟩,tv⟩,⟨?_,?_,?_,?_,?_⟩,?_,?_,?_,?_,?_,?_,?_⟩,fun x7 w8=>⟨⟨⟨tv,tv,tv⟩,?_,?_⟩,fun x9 df=>⟨fun ka=>⟨⟨⟨⟨tv,tv,tv,tv,tv,tv,tv,tv,tv⟩,tv⟩,⟨?_,?_,?_,?_,?_⟩,?_⟩,fun x12 iA=>⟨⟨?_,?_⟩,?_⟩⟩,fun gx=>⟨⟨?_,?_⟩,?_⟩⟩⟩⟩,fun oU=>⟨⟨⟨tv,tv,tv⟩,?_,?_⟩,fun x16 wu=>⟨fun qI=>⟨⟨⟨⟨tv,tv,tv,tv,tv,tv,tv,tv,tv⟩,tv⟩,⟨?_,?_,?_,?_,?_⟩,?_⟩,fun x19 um=>⟨⟨?_,?_⟩,?_⟩⟩,fun zg=>⟨⟨?_,?_⟩,?_⟩⟩⟩⟩⟩⟩,fun zf=>⟨[.s 4, .b 1004],[.s 67],rfl,[.s 5, .b 1005],[.s 68],rfl,[.s 2, .s 67, .b 1002],[.b 1002],rfl,[.s 3, .s 68, .b 1003],[.b 1003],rfl,?_⟩⟩
  all_goals first|refine au ?_|refine aw ?_|exact sa|(dsimp only [aX,cc];omega)|(dsimp only [kS,lP];omega)|(dsimp only [kU,lR];omega)|(dsimp only [kN,lK];omega)|(dsimp only [uc,r7];omega)|(dsimp only [tW,r5];omega)|(dsimp only [za,vk];omega)|(dsimp only [gT,jd];omega)|exact sb|exact hr.at (show 0≤q by omega) (show q≤_ by omega)|exact hF|exact hW.mono (by omega)|exact ⟨(u,tt,0),hF,fun n h=>h.mono (by omega)⟩|(show x2.1.2.1.size≤1000000;have h:x2.1.2.1.size≤30:=w3.1.1;omega)|(show x2.1.2.2.1.size≤1000000;have h:x2.1.2.2.1.size≤30:=w3.1.2.1;omega)|(show x2.1.2.1.size≤1000;have h:x2.1.2.1.size≤30:=w3.1.1;omega)|(show x2.1.2.2.1.size≤1000;have h:x2.1.2.2.1.size≤30:=w3.1.2.1;omega)|exact (HL w6).1|exact (HL w6).2.1|exact Nat.le_trans (HL w6).2.2 (by decide)|exact hr.at (show 0≤x2.2 by have e:q≤x2.2∧x2.2≤q+1020:=w3.2;omega) (show x2.2≤_ by have e:q≤x2.2∧x2.2≤q+1020:=w3.2;omega)|exact FS.gk (t:=x7.2.1) w8.1 (w8.2 _ hW) (by omega)|exact hF.gk hW (by omega)|skip
  ·have ET:0 < k:=cw (p:=k > 0) w1
   have e2:q≤x2.2∧x2.2≤q+1020:=w3.2
   have e9:x9.2=x2.2+1:=df.2
   have hV:=FS.SU (s:=x7.1) (t:=x7.2.1) w8.1 (w8.2 _ hW) (by omega)
   refine ⟨(gY x7.1,x7.2.1,k - 1,x9.2),[(1000000001,1000590000),(1000000002,1000590001),(1000000003,1000590002),(1000000004,670000),(1000000005,1000590004)],?_,?_,?_⟩
   rotate_right
   ·exact rq
   ·exact ⟨hV.1,hV.2.mono (by show 2000+301 * (11 - k).toNat+300+1≤2000+301 * (11 - (k - 1)).toNat;omega),⟨by show 0≤k - 1;omega,by show k - 1≤11;omega⟩,by show rp≤x9.2;omega,by show x9.2≤rp+3+1021 * (11 - (k - 1));omega⟩
   ·show (k - 1).toNat < k.toNat;omega
  ·have ET:0 < k:=cw (p:=k > 0) w1
   have e2:q≤x2.2∧x2.2≤q+1020:=w3.2
   have e9:x9.2=x2.2+1:=df.2
   have hG:FS x7.1 x7.2.1:=w8.1
   have hV:x7.1.wg (2000+301 * (11 - k).toNat+300):=w8.2 _ hW
   refine ⟨(x7.1,x7.2.1,k - 1,x9.2),[(1000000001,1000590000),(1000000002,1000590001),(1000000003,1000590002),(1000000004,1000590003),(1000000005,1000590004)],?_,?_,?_⟩
   rotate_right
   ·exact rq
   ·exact ⟨hG,hV.mono (by show 2000+301 * (11 - k).toNat+300≤2000+301 * (11 - (k - 1)).toNat;omega),⟨by show 0≤k - 1;omega,by show k - 1≤11;omega⟩,by show rp≤x9.2;omega,by show x9.2≤rp+3+1021 * (11 - (k - 1));omega⟩
   ·show (k - 1).toNat < k.toNat;omega
  ·have ET:0 < k:=cw (p:=k > 0) w1
   have e2:q≤x2.2∧x2.2≤q+1020:=w3.2
   have e9:x16.2=x2.2+1:=wu.2
   have hV:=hF.SU hW (by omega)
   refine ⟨(gY u,tt,k - 1,x16.2),[(1000000004,670000)],?_,?_,?_⟩
   rotate_right
   ·exact rq
   ·exact ⟨hV.1,hV.2.mono (by show 2000+301 * (11 - k).toNat+1≤2000+301 * (11 - (k - 1)).toNat;omega),⟨by show 0≤k - 1;omega,by show k - 1≤11;omega⟩,by show rp≤x16.2;omega,by show x16.2≤rp+3+1021 * (11 - (k - 1));omega⟩
   ·show (k - 1).toNat < k.toNat;omega
  ·have ET:0 < k:=cw (p:=k > 0) w1
   have e2:q≤x2.2∧x2.2≤q+1020:=w3.2
   have e9:x16.2=x2.2+1:=wu.2
   refine ⟨(u,tt,k - 1,x16.2),[],?_,?_,?_⟩
   rotate_right
   ·exact rq
   ·exact ⟨hF,hW.mono (by show 2000+301 * (11 - k).toNat≤2000+301 * (11 - (k - 1)).toNat;omega),⟨by show 0≤k - 1;omega,by show k - 1≤11;omega⟩,by show rp≤x16.2;omega,by show x16.2≤rp+3+1021 * (11 - (k - 1));omega⟩
   ·show (k - 1).toNat < k.toNat;omega
  ·refine ⟨[1000000001,1000000002,1000000003,1000000004,1000000005],[],_,_,_,rfl,rr,(u,tt,q),⟨hF,hW.mono (by omega),hq0,by show q≤rp+20000;omega⟩,rfl,rfl,rfl⟩
end GL
namespace GL
def lJ (r:List Int×Int) (S:ax):Prop:=EY r 970000∧S.wf
def OG (r:List Int×Int) (S:ax) (z:Pt×Int):Prop:=r.2≤z.2∧z.2≤r.2+1020
def N6 (r:List Int×Int) (S:ax) (z:Pt×Int):AV:=.o (ptA z.1)
def R5 (r:List Int×Int) (S:ax) (z:Pt×Int):List AV:=[.a [.vw kE r.1, .int z.2]]
def kM:Con where
 A:=[.b 0, .a xw]
 B:=[.a [.vw kE, .int]]
 pre:=fun x b=>lJ b (x.2)
 α:=fun _ _=>Pt×Int
 φ:=fun x b z=>OG b (x.2) z
 r:=fun x b z=>N6 b (x.2) z
 o:=fun x b z=>R5 b (x.2) z
 nf:=0
set_option maxRecDepth 100000 in
theorem yH:Has Tryz.prog 21 kM:=by
 refine Has.ofE (fun _=>true) (fun _=>false) (fun _=>false) (l:=[(16,aX),(52,ju),(53,oR)]) ⟨c7,IE,FG,trivial⟩ (fn:=Tryz.f21) Tryz.func21 rfl (by decide) (cH rfl) ?_
 rintro ⟨_,⟨(ai:List ByteArray),(aj:List Int),(ak:List Int),(an:Int),(ag:List Pt),(ao:Int),(ah:List Pt),(aq:Bool)⟩⟩ ⟨(rb:List Int),(rp:Int)⟩ (hp:lJ (rb,rp) (ai,aj,ak,an,ag,ao,ah,aq))
 show vc _ _ _ _ (entry [.s (.bp 0 0), .a [.vz aa ai, .vz ae aj, .vz ae ak, .int an, .vz ab ag, .int ao, .vz ab ah, .q aq]] [.a [.vw kE rb, .int rp]]) _
 obtain ⟨hr,oI⟩:=hp
 have hr:EY (rb,rp) 970000:=hr
 have oI:ax.wf (ai,aj,ak,an,ag,ao,ah,aq):=oI
 have hp0:0≤rp:=hr.p0
 have hp1:rp≤970000:=hr.p1
 have hl:ai.length=64∧aj.length=64∧ak.length=64:=oI.n
 refine ⟨⟨⟨tv,tv,tv⟩,?_,?_⟩,fun x1 w2=>⟨fun w3=>⟨⟨⟨tv,tv⟩,?_⟩,fun x4 w5=>?_⟩,fun w6=>⟨⟨⟨tv,tv,tv⟩,?_,?_⟩,fun x7 w8=>?_⟩⟩⟩
 all_goals first|refine au ?_|refine aw ?_|exact sa|(dsimp only [aX,cc];omega)|(dsimp only [ju,pL];omega)|(dsimp only [oR,mL];omega)|exact sb|exact hr.at hp0 (by omega)|(have e:x1.2=rp+1:=w2.2;exact hr.at (by omega) (by omega))|skip
 ·have e1:x1.2=rp+1:=w2.2
  have e2:x1.2≤x4.2∧x4.2≤x1.2+1010:=w5
  refine ⟨[],[],_,_,_,rfl,rr,((_,_,_,_,_),x4.2),⟨by show rp≤x4.2;omega,by show x4.2≤rp+1020;omega⟩,rfl,rfl,rfl⟩
 ·have e1:x1.2=rp+1:=w2.2
  have f7:=pk (n:=64) (by decide) w8
  obtain ⟨f0,p7⟩:=x7
  have e7:p7=x1.2+1:=w8.2
  have hn0:((ai.length:Nat):Int)≠0:=by rw [hl.1];decide
  have hnp:(0:Int) < (ai.length:Int):=by rw [hl.1];decide
  have db:∀k,(nth aa ai k).size≤1000000:=fun k=>E9 (ek:=aa) (P:=fun x:ByteArray=>x.size≤1000000) (Nat.zero_le _) oI.sz k
  refine cI (l:=[(16,aX),(52,ju),(53,oR)]) (ex:=fun _=>true) (wr:=fun _=>false) (pt:=fun _=>false) ⟨c7,IE,FG,tv⟩ [.s 0, .s 3, .b 1003, .s 4, .b 1004, .s 5, .b 0] (fun i:Nat=>[(.s 6, .int i)]) (fun i=>i≤64) (fun i=>64 - i) 0 [] (Nat.zero_le _) ru ?_
  rintro i (hi:i≤64)
  have cg:decide ((i:Int) < (ai.length:Int))=true→i < 64:=fun h=>by have:=cw h;omega
  refine ⟨fun w1=>⟨⟨?_,?_⟩,⟨?_,?_⟩,⟨?_,?_⟩,tv,fun w2=>⟨tv,fun w3=>⟨fun w4=>⟨[.s 7],[.s 50],rfl,[.s 3],[.s 51],rfl,[.s 51],[.s 52],rfl,[.s 52, .b 1003],[.s 53],rfl,[.s 7],[.s 54],rfl,[.s 53, .s 54],[.s 55],rfl,⟨?_,?_⟩,[.s 55],[.s 56],rfl,[.s 56],[.s 57],rfl,[.s 3],[.s 58],rfl,[.s 58, .b 1003],[.s 59],rfl,[.s 7],[.s 60],rfl,[.s 59, .s 60],[.s 61],rfl,⟨?_,?_⟩,[.s 61],[.s 62],rfl,[.s 50, .s 57, .s 62],[.s 63],rfl,⟨⟨tv,tv,tv,tv,tv⟩,?_⟩,?_,fun x5 w6=>⟨[.s 63],[.s 49],rfl,[.s 49],[.s 64],rfl,[.s 49],[.s 65],rfl,[.b 1008],[.s 8, .b 1008],rfl,[.s 8, .s 64, .b 1008],[.b 1008],rfl,[.s 65],[.s 9],rfl,⟨⟨tv,tv,tv⟩,?_,?_⟩,fun x7 w8=>⟨fun w9=>⟨⟨⟨tv,tv,tv⟩,?_,?_⟩,fun x10 ka=>⟨⟨?_,?_⟩,?_⟩⟩,fun dC=>?_⟩⟩⟩,fun iA=>⟨⟨?_,?_⟩,?_⟩⟩,fun gx=>⟨⟨?_,?_⟩,?_⟩⟩,fun oU=>⟨⟨?_,?_⟩,?_⟩⟩,fun j9=>?_⟩
  all_goals first|refine au ?_|refine aw ?_|exact sa|(dsimp only [aX,cc];omega)|(dsimp only [ju,pL];omega)|(dsimp only [oR,mL];omega)|exact sb|exact Int.emod_nonneg _ hn0|exact Int.emod_lt_of_pos _ hnp|exact Int.le_trans (Int.ofNat_le.2 (db _)) (by decide)|exact cw w4|(have e8:x7.2=p7+1:=w8.2;exact hr.at (by omega) (by omega))|exact hr.at (show 0≤p7 by omega) (by omega)|(simp only [gD];have h:=pk (n:=9) (by decide) ka;omega)|(simp only [imax];have h:=pk (n:=9) (by decide) ka;omega)|skip
  ·have e8:x7.2=p7+1:=w8.2
   have e10:x10.2=x7.2+1:=ka.2
   refine ⟨[],[],_,_,_,rfl,rr,(((gi ((f0+(i:Int)) % (ai.length:Int)) (max (1:Int) (nth ae ak ((f0+(i:Int)) % (ai.length:Int)).toNat)) 0 (nth aa ai ((f0+(i:Int)) % (ai.length:Int)).toNat)).1.1,1+x10.1,(gi ((f0+(i:Int)) % (ai.length:Int)) (max (1:Int) (nth ae ak ((f0+(i:Int)) % (ai.length:Int)).toNat)) 0 (nth aa ai ((f0+(i:Int)) % (ai.length:Int)).toNat)).1.2.2.1,(gi ((f0+(i:Int)) % (ai.length:Int)) (max (1:Int) (nth ae ak ((f0+(i:Int)) % (ai.length:Int)).toNat)) 0 (nth aa ai ((f0+(i:Int)) % (ai.length:Int)).toNat)).1.2.2.2.1,(gi ((f0+(i:Int)) % (ai.length:Int)) (max (1:Int) (nth ae ak ((f0+(i:Int)) % (ai.length:Int)).toNat)) 0 (nth aa ai ((f0+(i:Int)) % (ai.length:Int)).toNat)).1.2.2.2.2),x10.2),⟨by show rp≤x10.2;omega,by show x10.2≤rp+1020;omega⟩,rfl,rfl,rfl⟩
  ·have e8:x7.2=p7+1:=w8.2
   refine ⟨[],[],_,_,_,rfl,rr,((gi ((f0+(i:Int)) % (ai.length:Int)) (max (1:Int) (nth ae ak ((f0+(i:Int)) % (ai.length:Int)).toNat)) 0 (nth aa ai ((f0+(i:Int)) % (ai.length:Int)).toNat)).1,x7.2),⟨by show rp≤x7.2;omega,by show x7.2≤rp+1020;omega⟩,rfl,rfl,rfl⟩
  ·refine ⟨(i+1),[],?_,?_,?_⟩
   rotate_right
   ·exact rq
   ·exact cg w1
   ·show 64 - (i+1) < 64 - i;have:=cg w1;omega
  ·refine ⟨(i+1),[],?_,?_,?_⟩
   rotate_right
   ·exact rq
   ·exact cg w1
   ·show 64 - (i+1) < 64 - i;have:=cg w1;omega
  ·refine ⟨(i+1),[],?_,?_,?_⟩
   rotate_right
   ·exact rq
   ·exact cg w1
   ·show 64 - (i+1) < 64 - i;have:=cg w1;omega
  ·refine ⟨[],[],_,_,_,rfl,rr,((_,_,_,_,_),p7),⟨by show rp≤p7;omega,by show p7≤rp+1020;omega⟩,rfl,rfl,rfl⟩
end GL
namespace GL
structure Hur (s:ax):Prop where
 wg:s.wg 20000
 bY:0≤s.bY
 rf:∀k,(0:Int)≤nth ae s.refs k∧nth ae s.refs k≤(1000000:Int)
def nL (r:List Int×Int) (S:ax):Prop:=EY r 970000∧Hur S
def RZ (r:List Int×Int) (S:ax) (z:ax×Nat×Int):Prop:=(z.1.gone.length≤20001∧z.1.dead.length≤20001)∧(r.2≤z.2.2∧z.2.2≤r.2+1100)∧z.2.1≤z.1.rows.length
def dR (r:List Int×Int) (S:ax) (z:ax×Nat×Int):AV:=.a [.xs 1 1 z.2.1 (z.1.rows.length - z.2.1), .xs 2 1 0 z.1.refs.length, .xs 3 1 0 z.1.last.length, .int z.1.bY, .xs 4 5 0 z.1.gone.length, .int z.1.bT, .xs 5 5 0 z.1.dead.length, .q z.1.same]
def V7 (r:List Int×Int) (S:ax) (z:ax×Nat×Int):List AV:=[.a [.vw kE r.1, .int z.2.2], .rs aa z.1.rows, .rs ae z.1.refs, .rs ae z.1.last, .rs ab z.1.gone, .rs ab z.1.dead]
def na:Con where
 A:=[.b 0, .a xw]
 B:=[.a [.vw kE, .int]]
 pre:=fun x b=>nL b (x.2)
 α:=fun _ _=>ax×Nat×Int
 φ:=fun x b z=>RZ b (x.2) z
 r:=fun x b z=>dR b (x.2) z
 o:=fun x b z=>V7 b (x.2) z
 nf:=5
set_option maxRecDepth 100000 in
theorem CJ:Has Tryz.prog 22 na:=by
 refine Has.ofE (fun _=>true) (fun _=>false) (fun _=>false) (l:=[(54,jv),(16,aX),(19,cN),(52,ju)]) ⟨IG,c7,oY,IE,trivial⟩ (fn:=Tryz.f22) Tryz.func22 rfl (by decide) (cH rfl) ?_
 rintro ⟨_,⟨(ai:List ByteArray),(aj:List Int),(ak:List Int),(an:Int),(ag:List Pt),(ao:Int),(ah:List Pt),(aq:Bool)⟩⟩ ⟨(rb:List Int),(rp:Int)⟩ (hp:nL (rb,rp) (ai,aj,ak,an,ag,ao,ah,aq))
 show vc _ _ _ _ (entry [.s (.bp 0 0), .a [.vz aa ai, .vz ae aj, .vz ae ak, .int an, .vz ab ag, .int ao, .vz ab ah, .q aq]] [.a [.vw kE rb, .int rp]]) _
 obtain ⟨hr,hH⟩:=hp
 have ll:=hH.wg
 have akI:0≤an:=hH.bY
 have hrf:=hH.rf
 have hr1:∀k,(-9223372036854775808:Int)≤nth ae aj k+1:=fun k=>Int.le_trans (by decide) (Int.add_le_add_right (hrf k).1 1)
 have hr2:∀k,(nth ae aj k+1:Int)≤(9223372036854775807:Int):=fun k=>Int.le_trans (Int.add_le_add_right (hrf k).2 1) (by decide)
 have hr:EY (rb,rp) 970000:=hr
 have ll:ax.wg (ai,aj,ak,an,ag,ao,ah,aq) 20000:=ll
 have hp0:0≤rp:=hr.p0
 have hp1:rp≤970000:=hr.p1
 have hl:ai.length=64∧aj.length=64∧ak.length=64:=ll.wf.n
 have hg:ag.length≤20000:=ll.g
 have htx:an≤21000:=ll.t
 have hd:ah.length≤20000:=ll.d
 refine ⟨⟨⟨⟨tv,tv,tv,tv,tv,tv,tv,tv,tv⟩,tv⟩,?_,?_,?_,?_,?_⟩,fun x1 w2=>⟨⟨⟨tv,tv,tv⟩,?_,?_⟩,fun x3 w4=>⟨⟨?_,?_⟩,⟨⟨tv,tv,tv⟩,?_,?_⟩,fun x5 w6=>⟨fun w7=>⟨tv,⟨⟨tv,tv,tv⟩,?_,?_⟩,fun x8 w9=>⟨⟨?_,?_⟩,?_,?_⟩⟩,fun df=>⟨fun ka=>⟨[.s 3],[.s 26],rfl,[.s 26, .b 1003],[.s 27],rfl,[.s 3],[.s 28],rfl,[.s 28, .b 1003],[.s 29],rfl,[.s 29],[.s 30],rfl,⟨?_,?_⟩,[.s 27, .s 30, .b 1031],[.s 31, .b 1031],rfl,tv,[.s 0],[.s 32],rfl,[.s 32, .b 0],[.s 33, .b 0],rfl,⟨⟨tv,tv,tv⟩,?_,?_⟩,?_,fun x12 iA=>⟨[.s 31, .s 33],[.s 34],rfl,⟨?_,?_⟩,[.s 34, .b 1031],[.s 35],rfl,?_,[.s 3],[.s 36],rfl,[.s 36, .s 35, .b 1003],[.b 1003],rfl,?_⟩⟩,fun gx=>⟨fun oU=>⟨[.s 3],[.s 39],rfl,[.s 39, .b 1003],[.s 40],rfl,[.s 5],[.s 41],rfl,[.s 0],[.s 42],rfl,[.s 42, .b 0],[.s 43, .b 0],rfl,⟨⟨tv,tv,tv⟩,?_,?_,?_⟩,?_,fun x16 wu=>⟨[.s 40, .s 41],[.s 44],rfl,⟨?_,?_⟩,[.s 44, .s 43, .b 80000],[.b 80000],rfl,?_,?_⟩⟩,fun qI=>⟨fun ot=>⟨[.s 3],[.s 47],rfl,[.s 47],[.s 48],rfl,[.s 48, .b 1003],[.s 49],rfl,[.s 5],[.s 50],rfl,[.s 3],[.s 51],rfl,[.s 51],[.s 52],rfl,[.s 52, .b 1003],[.s 53],rfl,[.s 5],[.s 54],rfl,[.s 53, .s 54],[.s 55],rfl,⟨?_,?_⟩,[.s 55, .b 80001],[.s 56],rfl,?_,[.s 56],[.s 57],rfl,⟨?_,?_⟩,[.s 49, .s 50],[.s 58],rfl,⟨?_,?_⟩,[.s 58, .s 57, .b 80001],[.b 80001],rfl,?_,?_⟩,fun um=>⟨fun zg=>⟨[.s 3],[.s 61],rfl,[.s 61, .b 1003],[.s 62],rfl,[.s 0],[.s 63],rfl,[.s 63, .b 0],[.s 64, .b 0],rfl,⟨⟨tv,tv⟩,?_⟩,?_,fun x22 xv=>⟨[.s 64, .b 1065],[.s 65, .b 1065],rfl,tv,[.s 62, .s 65, .b 80003, .b 1065, .b 1066],[.s 66, .b 1066, .b 80003],rfl,⟨⟨?_,?_⟩,?_,?_⟩,[.s 3],[.s 67],rfl,[.s 67, .s 66, .b 1003],[.b 1003],rfl,?_⟩⟩,fun rl=>⟨fun w25=>⟨[.s 3],[.s 70],rfl,[.s 70, .b 1003],[.s 71],rfl,[.s 0],[.s 72],rfl,[.s 72, .b 0],[.s 73, .b 0],rfl,⟨⟨tv,tv⟩,?_⟩,?_,fun x26 w27=>⟨[.s 73, .b 1074],[.s 74, .b 1074],rfl,tv,[.s 71, .s 74, .b 80004, .b 1074, .b 1075],[.s 75, .b 1075, .b 80004],rfl,⟨⟨?_,?_⟩,?_,?_⟩,[.s 3],[.s 76],rfl,[.s 76, .s 75, .b 1003],[.b 1003],rfl,?_⟩⟩,fun w28=>⟨fun w29=>⟨⟨?_,?_,?_⟩,?_⟩,fun w30=>⟨fun w31=>⟨⟨?_,?_⟩,⟨?_,?_⟩,?_,?_⟩,fun w32=>⟨⟨?_,?_⟩,?_,?_⟩⟩⟩⟩⟩⟩⟩⟩⟩⟩⟩⟩
 all_goals first|refine au ?_|refine aw ?_|exact sa|(dsimp only [jv,pN];omega)|(dsimp only [aX,cc];omega)|(dsimp only [cN,gW];omega)|(dsimp only [ju,pL];omega)|exact sb|exact hr1 _|exact hr2 _|exact hr.at hp0 (by omega)|(refine hr.at ?_ ?_<;>(dsimp only [jv,aX,dH,cN,eZ,ju,p8,da,ax.rows,ax.refs,ax.last,ax.gone,ax.dead,ax.bY] at * <;>omega))|(show ai.length≤1000000;omega)|(show aj.length≤1000000;omega)|(show ak.length≤1000000;omega)|(show ag.length≤1000000;omega)|(show ah.length≤1000000;omega)|(show (8+x3.1).toNat < ai.length;have h:=pk (n:=6) (by decide) w4;omega)|(show (8+x3.1).toNat < aj.length;have h:=pk (n:=6) (by decide) w4;omega)|(show (8+x3.1).toNat < ak.length;have h:=pk (n:=6) (by decide) w4;omega)|(show 8+x3.1 < (ai.length:Int);have h:=pk (n:=6) (by decide) w4;omega)|(show 8+x3.1 < (aj.length:Int);have h:=pk (n:=6) (by decide) w4;omega)|(show 8+x3.1 < (ak.length:Int);have h:=pk (n:=6) (by decide) w4;omega)|(show 0≤8+x3.1;have h:=pk (n:=6) (by decide) w4;omega)|(simp only [gD];have h:=pk (n:=6) (by decide) w4;omega)|(simp only [imax];have h:=pk (n:=6) (by decide) w4;omega)|(show gD≤an - 1;simp only [gD];omega)|(show an - 1≤imax;simp only [imax];omega)|(show gD≤an+1;simp only [gD];omega)|(show an+1≤imax;simp only [imax];omega)|(show 2 < ai.length;omega)|(show (2:Int) < (ai.length:Int);omega)|(show (1:Int)≤(ai.length:Int);omega)|(show ag.length+1≤1048576;omega)|(show ah.length+1≤1048576;omega)|(show _ < ((List.length _:Nat):Int);dsimp only [jv,aX,dH,cN,eZ,ju,p8,da,ax.rows,ax.refs,ax.last,ax.gone,ax.dead,ax.bY,List.length_cons,List.length_nil] at *;omega)|(show Int.toNat _ < _;dsimp only [jv,aX,dH,cN,eZ,ju,p8,da,ax.rows,ax.refs,ax.last,ax.gone,ax.dead,ax.bY,List.length_cons,List.length_nil] at *;omega)|(dsimp only [jv,aX,dH,cN,eZ,ju,p8,da,ax.rows,ax.refs,ax.last,ax.gone,ax.dead,ax.bY] at *;omega)|exact ⟨(0,_), .inl rfl,rfl⟩|exact ⟨(⟨#[]⟩,x5.2),(by show ((0:Nat):Int)≤9;decide),Int.le_refl _,(by show x5.2≤x5.2+1000;omega)⟩|exact ⟨((0,0,0,0,0),x5.2),Int.le_refl _,(by show x5.2≤x5.2+1010;omega)⟩|skip
 ·refine ⟨[80000,80001,80002,80003,80004],[],_,_,_,rfl,rr,((ai,aj,ak,(nth ae [0,900,901] x8.1.toNat:Int),ag,ao,ah,aq),0,x8.2),⟨⟨(by show List.length ag≤20001;omega),(by show List.length ah≤20001;omega)⟩,⟨(by have e3:x3.2=rp+1:=w4.2;have e5:x5.2=x3.2+1:=w6.2;have e8:x8.2=x5.2+1:=w9.2;show rp≤x8.2;omega),(by have e3:x3.2=rp+1:=w4.2;have e5:x5.2=x3.2+1:=w6.2;have e8:x8.2=x5.2+1:=w9.2;show x8.2≤rp+1100;omega)⟩,Nat.zero_le _⟩,rfl,rfl,rfl⟩
 ·refine ⟨[80000,80001,80002,80003,80004],[],_,_,_,rfl,rr,((ai,aj,ak,an,ag,(nth ae [-1,an,an - 1] x12.1.toNat:Int),ah,aq),0,x12.2),⟨⟨(by show List.length ag≤20001;omega),(by show List.length ah≤20001;omega)⟩,⟨(by have e3:x3.2=rp+1:=w4.2;have e5:x5.2=x3.2+1:=w6.2;have e8:x12.2=x5.2+1:=iA.2;show rp≤x12.2;omega),(by have e3:x3.2=rp+1:=w4.2;have e5:x5.2=x3.2+1:=w6.2;have e8:x12.2=x5.2+1:=iA.2;show x12.2≤rp+1100;omega)⟩,Nat.zero_le _⟩,rfl,rfl,rfl⟩
 ·refine ⟨[80000,80001,80002,80003,80004],[],_,_,_,rfl,rr,((ai.set (8+x3.1).toNat x16.1,aj,ak,an,ag,ao,ah,aq),0,x16.2),⟨⟨(by show List.length ag≤20001;omega),(by show List.length ah≤20001;omega)⟩,⟨(by have e3:x3.2=rp+1:=w4.2;have e5:x5.2=x3.2+1:=w6.2;have e8:x5.2≤x16.2∧x16.2≤x5.2+1000:=wu.2;show rp≤x16.2;omega),(by have e3:x3.2=rp+1:=w4.2;have e5:x5.2=x3.2+1:=w6.2;have e8:x5.2≤x16.2∧x16.2≤x5.2+1000:=wu.2;show x16.2≤rp+1100;omega)⟩,Nat.zero_le _⟩,(by show _=dR (rb,rp) (ai,aj,ak,an,ag,ao,ah,aq) _;unfold dR;dsimp only [ax.rows,ax.refs,ax.last,ax.gone,ax.dead];simp only [List.length_set,List.length_append];rfl),rfl,rfl⟩
 ·refine ⟨[80000,80001,80002,80003,80004],[],_,_,_,rfl,rr,((ai,aj.set (8+x3.1).toNat (nth ae aj (8+x3.1).toNat+1:Int),ak,an,ag,ao,ah,aq),0,x5.2),⟨⟨(by show List.length ag≤20001;omega),(by show List.length ah≤20001;omega)⟩,⟨(by have e3:x3.2=rp+1:=w4.2;have e5:x5.2=x3.2+1:=w6.2;show rp≤x5.2;omega),(by have e3:x3.2=rp+1:=w4.2;have e5:x5.2=x3.2+1:=w6.2;show x5.2≤rp+1100;omega)⟩,Nat.zero_le _⟩,(by show _=dR (rb,rp) (ai,aj,ak,an,ag,ao,ah,aq) _;unfold dR;dsimp only [ax.rows,ax.refs,ax.last,ax.gone,ax.dead];simp only [List.length_set,List.length_append];rfl),rfl,rfl⟩
 ·refine ⟨[80000,80001,80002,1066,80004],[],_,_,_,rfl,rr,((ai,aj,ak,an,ag++[x22.1],ao,ah,aq),0,x22.2),⟨⟨(by show List.length (ag++[x22.1])≤20001;rw [List.length_append];show ag.length+1≤20001;omega),(by show List.length ah≤20001;omega)⟩,⟨(by have e3:x3.2=rp+1:=w4.2;have e5:x5.2=x3.2+1:=w6.2;have e8:x5.2≤x22.2∧x22.2≤x5.2+1010:=xv;show rp≤x22.2;omega),(by have e3:x3.2=rp+1:=w4.2;have e5:x5.2=x3.2+1:=w6.2;have e8:x5.2≤x22.2∧x22.2≤x5.2+1010:=xv;show x22.2≤rp+1100;omega)⟩,Nat.zero_le _⟩,(by show _=dR (rb,rp) (ai,aj,ak,an,ag,ao,ah,aq) _;unfold dR;dsimp only [ax.rows,ax.refs,ax.last,ax.gone,ax.dead];simp only [List.length_set,List.length_append];rfl),rfl,rfl⟩
 ·refine ⟨[80000,80001,80002,80003,1075],[],_,_,_,rfl,rr,((ai,aj,ak,an,ag,ao,ah++[x26.1],aq),0,x26.2),⟨⟨(by show List.length ag≤20001;omega),(by show List.length (ah++[x26.1])≤20001;rw [List.length_append];show ah.length+1≤20001;omega)⟩,⟨(by have e3:x3.2=rp+1:=w4.2;have e5:x5.2=x3.2+1:=w6.2;have e8:x5.2≤x26.2∧x26.2≤x5.2+1010:=w27;show rp≤x26.2;omega),(by have e3:x3.2=rp+1:=w4.2;have e5:x5.2=x3.2+1:=w6.2;have e8:x5.2≤x26.2∧x26.2≤x5.2+1010:=w27;show x26.2≤rp+1100;omega)⟩,Nat.zero_le _⟩,(by show _=dR (rb,rp) (ai,aj,ak,an,ag,ao,ah,aq) _;unfold dR;dsimp only [ax.rows,ax.refs,ax.last,ax.gone,ax.dead];simp only [List.length_set,List.length_append];rfl),rfl,rfl⟩
 ·refine ⟨[80000,80001,80002,80003,80004],[],_,_,_,rfl,rr,((ai,aj,ak,an,ag,ao,ah,aq),1,x5.2),⟨⟨(by show List.length ag≤20001;omega),(by show List.length ah≤20001;omega)⟩,⟨(by have e3:x3.2=rp+1:=w4.2;have e5:x5.2=x3.2+1:=w6.2;show rp≤x5.2;omega),(by have e3:x3.2=rp+1:=w4.2;have e5:x5.2=x3.2+1:=w6.2;show x5.2≤rp+1100;omega)⟩,(by show 1≤ai.length;omega)⟩,rfl,rfl,rfl⟩
 ·refine ⟨[80000,80001,80002,80003,80004],[],_,_,_,rfl,rr,((ai,aj,ak.set (8+x3.1).toNat (an+1),an,ag,ao,ah,aq),0,x5.2),⟨⟨(by show List.length ag≤20001;omega),(by show List.length ah≤20001;omega)⟩,⟨(by have e3:x3.2=rp+1:=w4.2;have e5:x5.2=x3.2+1:=w6.2;show rp≤x5.2;omega),(by have e3:x3.2=rp+1:=w4.2;have e5:x5.2=x3.2+1:=w6.2;show x5.2≤rp+1100;omega)⟩,Nat.zero_le _⟩,(by show _=dR (rb,rp) (ai,aj,ak,an,ag,ao,ah,aq) _;unfold dR;dsimp only [ax.rows,ax.refs,ax.last,ax.gone,ax.dead];simp only [List.length_set,List.length_append];rfl),rfl,rfl⟩
 ·refine ⟨[80000,80001,80002,80003,80004],[],_,_,_,rfl,rr,((ai.set 2 ⟨#[108,111,119]⟩,aj,ak,an,ag,ao,ah,aq),0,x5.2),⟨⟨(by show List.length ag≤20001;omega),(by show List.length ah≤20001;omega)⟩,⟨(by have e3:x3.2=rp+1:=w4.2;have e5:x5.2=x3.2+1:=w6.2;show rp≤x5.2;omega),(by have e3:x3.2=rp+1:=w4.2;have e5:x5.2=x3.2+1:=w6.2;show x5.2≤rp+1100;omega)⟩,Nat.zero_le _⟩,(by show _=dR (rb,rp) (ai,aj,ak,an,ag,ao,ah,aq) _;unfold dR;dsimp only [ax.rows,ax.refs,ax.last,ax.gone,ax.dead];simp only [List.length_set,List.length_append];rfl),rfl,rfl⟩
end GL
end Go.Proofs.YtbfgjadbfjkcdaaGreatDoor
