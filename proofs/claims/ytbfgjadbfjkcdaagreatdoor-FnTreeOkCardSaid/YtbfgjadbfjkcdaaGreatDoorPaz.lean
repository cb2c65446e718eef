/- FnTreeOk returns true for every code (its row lists package variables, tied by the card): part 26 of 39. -/
import Derived.Test.YtbfgjadbfjkcdaaGreatDoorPay
set_option maxHeartbeats 20000000
set_option linter.all false
namespace Go.Proofs.YtbfgjadbfjkcdaaGreatDoor
namespace GL
abbrev rQ (s:ax) (n:fl) (a:Int):ByteArray:=iX s n++kF (a - (iX s n).size)
abbrev U1 (s:ax) (n:fl) (a:Int) (text:ByteArray):ByteArray:=(rQ s n a).extract 0 a.toNat++text++(rQ s n a).extract (min ((rQ s n a).size:Int) (a+text.size)).toNat (rQ s n a).size
theorem K7 {s:ax} {n:fl} {a:Int}:(rQ s n a).size=(iX s n).size+(max 0 (a - (iX s n).size)).toNat:=by rw [ByteArray.size_append,kV]
theorem aaM {s:ax} {n:fl} {a:Int} {text:ByteArray} (h:0≤a):a.toNat+text.size≤(U1 s n a text).size∧(U1 s n a text).size≤(rQ s n a).size+text.size:=by
 have h1:=K7 (s:=s) (n:=n) (a:=a)
 show _≤((rQ s n a).extract 0 a.toNat++text++(rQ s n a).extract (min ((rQ s n a).size:Int) (a+text.size)).toNat (rQ s n a).size).size∧((rQ s n a).extract 0 a.toNat++text++(rQ s n a).extract (min ((rQ s n a).size:Int) (a+text.size)).toNat (rQ s n a).size).size≤_
 rw [ByteArray.size_append,ByteArray.size_append,ByteArray.size_extract,ByteArray.size_extract]
 omega
def nB (s:ax) (n:fl) (a:Int) (text:ByteArray):ax×fl×Bool:=bif decide (text=⟨#[]⟩) then (s,n,true) else zA s n (U1 s n a text) (a / 12) ((a+text.size - 1) / 12)
theorem NT {s:ax} {n:fl} {a:Int} {text:ByteArray} (h:decide (text=⟨#[]⟩)=true):nB s n a text=(s,n,true):=by unfold nB;rw [h];rfl
theorem NS {s:ax} {n:fl} {a:Int} {text:ByteArray} (h:decide (text=⟨#[]⟩)=false):nB s n a text=zA s n (U1 s n a text) (a / 12) ((a+text.size - 1) / 12):=by unfold nB;rw [h];rfl
def tf (S:ax) (n:fl) (at':Int) (text:ByteArray):Prop:=S.wg 1045000∧n.fok∧0≤at'∧at'+text.size≤192
def lG (S:ax) (n:fl) (at':Int) (text:ByteArray):AV:=.t [.a (lA 0 1 2 5 6 (nB S n at' text).1),ndA (nB S n at' text).2.1, .s (.q (nB S n at' text).2.2)]
def nS (S:ax) (n:fl) (at':Int) (text:ByteArray):List AV:=[.rs aa (nB S n at' text).1.rows, .rs ae (nB S n at' text).1.refs, .rs ae (nB S n at' text).1.last, .zz, .zz, .rs ab (nB S n at' text).1.gone, .rs ab (nB S n at' text).1.dead]
def y4:Con where
 A:=[.a (stB 0 1 2 3 4), .a [.int, .int, .int, .int, .int, .int, .int, .int, .int, .int], .s .int, .s .str]
 B:=[.r aa, .r ae, .r ae, .r ab, .r ab]
 pre:=fun x b=>whole x.1.1 x.1.2.1 x.1.2.2.1 x.1.2.2.2.2.1 x.1.2.2.2.2.2.2.1 (b.1) (b.2.1) (b.2.2.1) (b.2.2.2.1) (b.2.2.2.2)∧tf ((b.1,b.2.1,b.2.2.1,x.1.2.2.2.1,b.2.2.2.1,x.1.2.2.2.2.2.1,b.2.2.2.2,x.1.2.2.2.2.2.2.2)) (x.2.1) (x.2.2.1) (x.2.2.2)
 α:=fun _ _=>Unit
 φ:=fun _ _ _=>True
 r:=fun x b _=>lG ((b.1,b.2.1,b.2.2.1,x.1.2.2.2.1,b.2.2.2.1,x.1.2.2.2.2.2.1,b.2.2.2.2,x.1.2.2.2.2.2.2.2)) (x.2.1) (x.2.2.1) (x.2.2.2)
 o:=fun x b _=>nS ((b.1,b.2.1,b.2.2.1,x.1.2.2.2.1,b.2.2.2.1,x.1.2.2.2.2.2.1,b.2.2.2.2,x.1.2.2.2.2.2.2.2)) (x.2.1) (x.2.2.1) (x.2.2.2)
 nf:=2
 mv:=true
set_option maxRecDepth 100000 in
theorem XE:Has Tryz.prog 109 y4:=by
 refine Has.ofZ (fun _=>true) (fun _=>false) (fun _=>false) (l:=[(138,sE),(139,ix),(140,vT)]) ⟨MC,tH,TL,trivial⟩ (fn:=Tryz.f109) Tryz.func109 rfl (by decide) (cH rfl) ?_
 rintro ⟨⟨(AS:Nat),(AR:Nat),(AQ:Nat),(an:Int),(AO:Nat),(ao:Int),(AN:Nat),(aq:Bool)⟩,⟨(n1:Int),(n2:Int),(n3:Int),(n4:Int),(n5:Int),(n6:Int),(n7:Int),(n8:Int),(n9:Int),(ck:Int)⟩,(at':Int),(text:ByteArray)⟩ ⟨(ai:List ByteArray),(aj:List Int),(ak:List Int),(ag:List Pt),(ah:List Pt)⟩ ⟨⟨(gr:AS=List.length ai),(gq:AR=List.length aj),(gp:AQ=List.length ak),(gn:AO=List.length ag),(gm:AN=List.length ah)⟩,(hp:tf (ai,aj,ak,an,ag,ao,ah,aq) (n1,n2,n3,n4,n5,n6,n7,n8,n9,ck) at' text)⟩
 subst gr gq gp gn gm
 show vc _ _ _ _ (entry [.a [.xs 0 1 0 ai.length, .xs 1 1 0 aj.length, .xs 2 1 0 ak.length, .int an, .xs 3 5 0 ag.length, .int ao, .xs 4 5 0 ah.length, .q aq], .a [.int n1, .int n2, .int n3, .int n4, .int n5, .int n6, .int n7, .int n8, .int n9, .int ck], .int at', .str text] [.rs aa ai, .rs ae aj, .rs ae ak, .rs ab ag, .rs ab ah]) _
 obtain ⟨ll,hf,ha0,ha1⟩:=hp
 have ll:ax.wg (ai,aj,ak,an,ag,ao,ah,aq) 1045000:=ll
 have hf:fl.fok (n1,n2,n3,n4,n5,n6,n7,n8,n9,ck):=hf
 have hts:=F8 ll.wf.rd hf
 have h1:=K7 (s:=(ai,aj,ak,an,ag,ao,ah,aq)) (n:=(n1,n2,n3,n4,n5,n6,n7,n8,n9,ck)) (a:=at')
 have h2:=aaM (s:=(ai,aj,ak,an,ag,ao,ah,aq)) (n:=(n1,n2,n3,n4,n5,n6,n7,n8,n9,ck)) (a:=at') (text:=text) ha0
 have mV:decide (text=⟨#[]⟩)=false→1≤text.size:=fun h=>size_pos (ca h)
 refine ⟨fun w1=>⟨[.s 4, .b 1004],[.s 15],rfl,[.s 5, .b 1005],[.s 16],rfl,[.s 8, .s 15, .b 1008],[.b 1008],rfl,[.s 9, .s 16, .b 1009],[.b 1009],rfl,[],[.s 10],rfl,?_⟩,fun w2=>⟨⟨⟨⟨⟨?_,?_⟩,⟨?_,?_⟩,⟨?_,?_⟩,tv,⟨?_,?_⟩,tv,⟨?_,?_⟩,tv,tv⟩,⟨tv,tv,tv,tv,tv,tv,tv,tv,tv,tv,tv⟩,tv⟩,?_,?_⟩,fun x3 w4=>⟨⟨?_,?_⟩,⟨⟨tv,tv⟩,?_⟩,fun x5 w6=>⟨?_,⟨?_,?_⟩,[.s 11],[.s 34],rfl,[.s 2],[.s 35],rfl,[.s 34, .s 35],[.s 36],rfl,⟨?_,?_,?_⟩,[.s 3],[.s 37],rfl,[.s 36, .s 37],[.s 38],rfl,?_,[.s 11],[.s 39],rfl,[.s 12],[.s 40],rfl,[.s 39, .s 40],[.s 41],rfl,⟨?_,?_,?_⟩,[.s 38, .s 41],[.s 42],rfl,?_,[.s 42],[.s 11],rfl,⟨?_,?_,?_⟩,⟨?_,?_⟩,⟨?_,?_⟩,⟨?_,?_,?_⟩,⟨⟨⟨tv,tv,tv,tv,tv,tv,tv,tv,tv⟩,⟨tv,tv,tv,tv,tv,tv,tv,tv,tv,tv,tv⟩,tv,tv,tv,tv⟩,⟨?_,?_,?_,?_,?_⟩,?_,?_,?_,?_,?_,?_,?_⟩,fun x7 w8=>?_⟩⟩⟩⟩
 all_goals first|refine au ?_|refine aw ?_|exact sa|(dsimp only [sE,qO];omega)|(dsimp only [ix,jG];omega)|(dsimp only [vT,tg];omega)|exact sb|exact ll.wf.rd|exact hf|exact ll|exact hf.ok|(have:=mV w2;omega)|skip
 ·refine ⟨[3,4],[],_,_,_,rfl,rp,(),0,tv,?_,?_,rfl⟩
  ·(show _=lG (ai,aj,ak,an,ag,ao,ah,aq) (n1,n2,n3,n4,n5,n6,n7,n8,n9,ck) at' text);unfold lG;first |(rw [NT (s:=(ai,aj,ak,an,ag,ao,ah,aq)) (n:=(n1,n2,n3,n4,n5,n6,n7,n8,n9,ck)) (a:=at') w1];rfl) |rfl
  ·(show _=nS (ai,aj,ak,an,ag,ao,ah,aq) (n1,n2,n3,n4,n5,n6,n7,n8,n9,ck) at' text);unfold nS;first |(rw [NT (s:=(ai,aj,ak,an,ag,ao,ah,aq)) (n:=(n1,n2,n3,n4,n5,n6,n7,n8,n9,ck)) (a:=at') w1];rfl) |rfl
 ·show (((iX (ai,aj,ak,an,ag,ao,ah,aq) (n1,n2,n3,n4,n5,n6,n7,n8,n9,ck)).size+(kF (at' - (iX (ai,aj,ak,an,ag,ao,ah,aq) (n1,n2,n3,n4,n5,n6,n7,n8,n9,ck)).size)).size:Nat):Int)≤imax
  rw [kV];unfold imax;omega
 ·show at'≤((rQ (ai,aj,ak,an,ag,ao,ah,aq) (n1,n2,n3,n4,n5,n6,n7,n8,n9,ck) at').size:Int);omega
 ·show ((((rQ (ai,aj,ak,an,ag,ao,ah,aq) (n1,n2,n3,n4,n5,n6,n7,n8,n9,ck) at').extract 0 at'.toNat).size+text.size:Nat):Int)≤imax
  rw [ByteArray.size_extract];unfold imax;omega
 ·show ((((rQ (ai,aj,ak,an,ag,ao,ah,aq) (n1,n2,n3,n4,n5,n6,n7,n8,n9,ck) at').extract 0 at'.toNat++text).size+((rQ (ai,aj,ak,an,ag,ao,ah,aq) (n1,n2,n3,n4,n5,n6,n7,n8,n9,ck) at').extract (min ((rQ (ai,aj,ak,an,ag,ao,ah,aq) (n1,n2,n3,n4,n5,n6,n7,n8,n9,ck) at').size:Int) (at'+text.size)).toNat (rQ (ai,aj,ak,an,ag,ao,ah,aq) (n1,n2,n3,n4,n5,n6,n7,n8,n9,ck) at').size).size:Nat):Int)≤imax
  rw [ByteArray.size_append,ByteArray.size_extract,ByteArray.size_extract];unfold imax;omega
 ·have:=mV w2
  show (at'+text.size - 1) / 12 * 12≤((U1 (ai,aj,ak,an,ag,ao,ah,aq) (n1,n2,n3,n4,n5,n6,n7,n8,n9,ck) at' text).size:Int);omega
 ·show (U1 (ai,aj,ak,an,ag,ao,ah,aq) (n1,n2,n3,n4,n5,n6,n7,n8,n9,ck) at' text).size≤100000000;omega
 ·refine ⟨[1000550000,1000550001],[],_,_,_,rfl,rp,(),0,tv,?_,?_,rfl⟩
  ·(show _=lG (ai,aj,ak,an,ag,ao,ah,aq) (n1,n2,n3,n4,n5,n6,n7,n8,n9,ck) at' text);unfold lG;first |(rw [NS (s:=(ai,aj,ak,an,ag,ao,ah,aq)) (n:=(n1,n2,n3,n4,n5,n6,n7,n8,n9,ck)) (a:=at') w2];rfl) |rfl
  ·(show _=nS (ai,aj,ak,an,ag,ao,ah,aq) (n1,n2,n3,n4,n5,n6,n7,n8,n9,ck) at' text);unfold nS;first |(rw [NS (s:=(ai,aj,ak,an,ag,ao,ah,aq)) (n:=(n1,n2,n3,n4,n5,n6,n7,n8,n9,ck)) (a:=at') w2];rfl) |rfl
theorem QJ {size:Int}:∀ {l:List ByteArray} {k:Nat} {out:ByteArray},out.size≤(txF size l k out).size
 |[],k,out=>Nat.le_refl _
 |x::l,k,out=>by
  have h:=QJ (size:=size) (l:=l) (k:=k+1) (out:=out++x++kF (mu size k - x.size))
  rw [ByteArray.size_append,ByteArray.size_append] at h
  rw [txF];omega
theorem acA {size:Int}:∀ {l:List ByteArray} {k:Nat} {out:ByteArray},size≤12 * ((k+l.length:Nat):Int)→(out.size:Int)+(size - 12 * k)≤((txF size l k out).size:Int)
 |[],k,out,h=>by rw [List.length_nil] at h;show _≤(out.size:Int);omega
 |x::l,k,out,h=>by
  rw [List.length_cons] at h
  have h1:=acA (size:=size) (l:=l) (k:=k+1) (out:=out++x++kF (mu size k - x.size)) (by omega)
  have h2:=QJ (size:=size) (l:=l) (k:=k+1) (out:=out++x++kF (mu size k - x.size))
  have h3:mu size k=min 12 (size - (k:Int) * 12):=rfl
  rw [ByteArray.size_append,ByteArray.size_append,kV] at h1 h2
  rw [txF];omega
theorem node1 {n:fl} (h:cm n=true) (h1:n.1=1):(cO n).many=ba n.2.2.1 12∧0≤n.2.2.1∧n.2.2.1≤192:=by
 obtain ⟨b1,b2,b3,b4,b5,b6,b7,b8,b9⟩:=lh h
 have e:kl n.1=12:=by rw [h1];rfl
 unfold bC at b7
 rw [e] at b7
 cases hi:ir n.2.2.1 0 (16 * 12) with
 |true=>
  rw [hi] at b7
  exact ⟨b7,(cn.1 hi).1,(cn.1 hi).2⟩
 |false=>
  rw [hi] at b7
  have b7:n.2.2.2.2.2.2.2.2.2= -1:=b7
  omega
theorem acC {s:ax} {n:fl} (h:cm n=true) (h1:n.1=1):n.2.2.1≤((iX s n).size:Int):=by
 obtain ⟨e,e0,e1⟩:=node1 h h1
 have cq:=nW h
 have hl:=fg (s:=s) cq
 have h2:=acA (size:=n.2.2.1) (l:=bg s (cO n)) (k:=0) (out:=⟨#[]⟩) (by
  rw [hl,e];unfold ba;omega)
 have h3:(((⟨#[]⟩:ByteArray).size:Nat):Int)=0:=rfl
 rw [h3] at h2
 show _≤((txF _ _ _ _).size:Int);omega
theorem HR {n:fl} (h:cm n=true):n.fok:=by
 have:=(lh h).2.2.1
 exact ⟨nW h,by omega,by omega⟩
def J8 (c:ax×aZ×Bool) (n:fl) (all:ByteArray) (size many:Int):ax×fl×Bool:=
 bif !c.2.2 then (c.1,n,false) else bif decide (many=0) then (c.1,kb n size c.2.1,true) else zA c.1 (kb n size c.2.1) (all.extract 0 size.toNat) (many - 1) (many - 1)
def iU (s:ax) (n:fl) (size:Int):ax×fl×Bool:=
 bif decide (size≥n.2.2.1) then
  (bif decide (ba size 12=(cO n).many) then (s,kb n size (cO n),true) else
   ((aU s (cO n) (ba size 12 - 1) ⟨#[]⟩).1,kb n size (aU s (cO n) (ba size 12 - 1) ⟨#[]⟩).2.1,(aU s (cO n) (ba size 12 - 1) ⟨#[]⟩).2.2))
 else J8 (cA s (cO n) (ba size 12)) n (iX s n) size (ba size 12)
def yo (S:ax) (n:fl) (size:Int):Prop:=S.wg 1044000∧cm n=true∧n.1=1∧0≤size∧size≤192
def eG (S:ax) (n:fl) (size:Int):AV:=.t [.a (lA 0 1 2 5 6 (iU S n size).1),ndA (iU S n size).2.1, .s (.q (iU S n size).2.2)]
def fE (S:ax) (n:fl) (size:Int):List AV:=[.rs aa (iU S n size).1.rows, .rs ae (iU S n size).1.refs, .rs ae (iU S n size).1.last, .zz, .zz, .rs ab (iU S n size).1.gone, .rs ab (iU S n size).1.dead]
def J2:Con where
 A:=[.a (stB 0 1 2 3 4), .a [.int, .int, .int, .int, .int, .int, .int, .int, .int, .int], .s .int]
 B:=[.r aa, .r ae, .r ae, .r ab, .r ab]
 pre:=fun x b=>whole x.1.1 x.1.2.1 x.1.2.2.1 x.1.2.2.2.2.1 x.1.2.2.2.2.2.2.1 (b.1) (b.2.1) (b.2.2.1) (b.2.2.2.1) (b.2.2.2.2)∧yo ((b.1,b.2.1,b.2.2.1,x.1.2.2.2.1,b.2.2.2.1,x.1.2.2.2.2.2.1,b.2.2.2.2,x.1.2.2.2.2.2.2.2)) (x.2.1) (x.2.2)
 α:=fun _ _=>Unit
 φ:=fun _ _ _=>True
 r:=fun x b _=>eG ((b.1,b.2.1,b.2.2.1,x.1.2.2.2.1,b.2.2.2.1,x.1.2.2.2.2.2.1,b.2.2.2.2,x.1.2.2.2.2.2.2.2)) (x.2.1) (x.2.2)
 o:=fun x b _=>fE ((b.1,b.2.1,b.2.2.1,x.1.2.2.2.1,b.2.2.2.1,x.1.2.2.2.2.2.1,b.2.2.2.2,x.1.2.2.2.2.2.2.2)) (x.2.1) (x.2.2)
 nf:=2
 mv:=true
set_option maxRecDepth 100000 in
theorem ad8:Has Tryz.prog 110 J2:=by
 refine Has.ofZ (fun _=>true) (fun _=>false) (fun _=>false) (l:=[(138,sE),(141,lq),(139,ix),(18,eo),(135,mb),(140,vT)]) ⟨MC,DY,tH,lY,zI,TL,trivial⟩ (fn:=Tryz.f110) Tryz.func110 rfl (by decide) (cH rfl) ?_
 rintro ⟨⟨(AS:Nat),(AR:Nat),(AQ:Nat),(an:Int),(AO:Nat),(ao:Int),(AN:Nat),(aq:Bool)⟩,⟨(n1:Int),(n2:Int),(n3:Int),(n4:Int),(n5:Int),(n6:Int),(n7:Int),(n8:Int),(n9:Int),(ck:Int)⟩,(size:Int)⟩ ⟨(ai:List ByteArray),(aj:List Int),(ak:List Int),(ag:List Pt),(ah:List Pt)⟩ ⟨⟨(gr:AS=List.length ai),(gq:AR=List.length aj),(gp:AQ=List.length ak),(gn:AO=List.length ag),(gm:AN=List.length ah)⟩,(hp:yo (ai,aj,ak,an,ag,ao,ah,aq) (n1,n2,n3,n4,n5,n6,n7,n8,n9,ck) size)⟩
 subst gr gq gp gn gm
 show vc _ _ _ _ (entry [.a [.xs 0 1 0 ai.length, .xs 1 1 0 aj.length, .xs 2 1 0 ak.length, .int an, .xs 3 5 0 ag.length, .int ao, .xs 4 5 0 ah.length, .q aq], .a [.int n1, .int n2, .int n3, .int n4, .int n5, .int n6, .int n7, .int n8, .int n9, .int ck], .int size] [.rs aa ai, .rs ae aj, .rs ae ak, .rs ab ag, .rs ab ah]) _
 obtain ⟨ll,uy,(hn1:n1=1),hs0,hs1⟩:=hp
 have ll:ax.wg (ai,aj,ak,an,ag,ao,ah,aq) 1044000:=ll
 have uy:cm (n1,n2,n3,n4,n5,n6,n7,n8,n9,ck)=true:=uy
 have hf:=HR uy
 have cq:=hf.ok
 have hts:=F8 ll.wf.rd hf
 have FJ:n3≤((iX (ai,aj,ak,an,ag,ao,ah,aq) (n1,n2,n3,n4,n5,n6,n7,n8,n9,ck)).size:Int):=acC (s:=(ai,aj,ak,an,ag,ao,ah,aq)) uy hn1
 obtain ⟨(hm:ck=ba n3 12),(CQ:0≤n3),(hm1:n3≤192)⟩:=node1 uy hn1
 have hpm:ba size 12=(size+12 - 1) / 12:=rfl
 have hpn:ba n3 12=(n3+12 - 1) / 12:=rfl
 have hcu:=FP (many:=ba size 12) ll cq (by omega) (by omega)
 refine ⟨⟨⟨⟨⟨?_,?_⟩,⟨?_,?_⟩,⟨?_,?_⟩,tv,⟨?_,?_⟩,tv,⟨?_,?_⟩,tv,tv⟩,⟨tv,tv,tv,tv,tv,tv,tv,tv,tv,tv,tv⟩,tv⟩,?_,?_⟩,fun x1 w2=>⟨⟨⟨tv,tv,tv⟩,?_,?_,?_,?_⟩,fun x3 w4=>⟨fun w5=>⟨⟨?_,?_⟩,⟨⟨tv,tv⟩,?_⟩,fun x6 w7=>⟨?_,fun w8=>⟨[.s 3, .b 1003],[.s 40],rfl,[.s 4, .b 1004],[.s 41],rfl,[.s 6, .s 40, .b 1006],[.b 1006],rfl,[.s 7, .s 41, .b 1007],[.b 1007],rfl,[],[.s 8],rfl,?_⟩,fun w9=>⟨⟨?_,?_⟩,⟨⟨⟨tv,tv,tv,tv,tv,tv,tv,tv,tv⟩,⟨tv,tv,tv,tv,tv,tv,tv,tv⟩,tv,tv,tv⟩,⟨?_,?_,?_,?_,?_⟩,?_,?_,?_,?_,?_,?_,?_,?_⟩,fun |false=>fun df=>⟨[.s 11, .b 1011],[.s 54],rfl,[.s 4, .b 1004],[.s 55],rfl,[.s 13],[.s 56],rfl,[.s 6, .s 54, .b 1006],[.b 1006],rfl,[.s 7, .s 55, .b 1007],[.b 1007],rfl,[.s 56],[.s 8],rfl,?_⟩ |true=>fun ka=>⟨[.s 11, .b 1011],[.s 54],rfl,[.s 4, .b 1004],[.s 55],rfl,[.s 13],[.s 56],rfl,[.s 6, .s 54, .b 1006],[.b 1006],rfl,[.s 7, .s 55, .b 1007],[.b 1007],rfl,[.s 56],[.s 8],rfl,?_⟩⟩⟩⟩,fun dC=>⟨⟨⟨⟨tv,tv,tv,tv,tv,tv,tv,tv,tv⟩,⟨tv,tv,tv,tv,tv,tv,tv,tv⟩,tv,tv⟩,⟨?_,?_,?_,?_,?_⟩,?_,?_,?_,?_,?_,?_⟩,fun |false=>fun iA=>⟨fun gx=>⟨[.s 3, .b 1003],[.s 68],rfl,[.s 4, .b 1004],[.s 69],rfl,[.s 6, .s 68, .b 1006],[.b 1006],rfl,[.s 7, .s 69, .b 1007],[.b 1007],rfl,[],[.s 8],rfl,?_⟩,fun oU=>⟨fun j9=>⟨[.s 14, .b 1014],[.s 76],rfl,[.s 4, .b 1004],[.s 77],rfl,[.s 6, .s 76, .b 1006],[.b 1006],rfl,[.s 7, .s 77, .b 1007],[.b 1007],rfl,[],[.s 8],rfl,?_⟩,fun wu=>⟨[.s 14, .b 1014],[.s 78],rfl,[.s 4, .b 1004],[.s 79],rfl,[.s 9],[.s 80],rfl,[.s 2],[.s 81],rfl,[.s 80, .s 81],[.s 82],rfl,⟨?_,?_,?_⟩,[.s 10],[.s 83],rfl,[.s 83],[.s 84],rfl,⟨?_,?_⟩,[.s 10],[.s 85],rfl,[.s 85],[.s 86],rfl,⟨?_,?_⟩,[.s 78, .s 79, .s 82, .s 84, .s 86, .b 0, .b 1, .b 2, .b 3, .b 4, .b 1000880001, .b 1000880000],[.s 87, .b 0, .b 1, .b 2, .b 3, .b 4, .b 1000880000, .b 1000880001],rfl,⟨⟨⟨tv,tv,tv,tv,tv,tv,tv,tv,tv⟩,⟨tv,tv,tv,tv,tv,tv,tv,tv,tv,tv,tv⟩,tv,tv,tv,tv⟩,⟨?_,?_,?_,?_,?_⟩,?_,?_,?_,?_,?_,?_,?_⟩,?_,fun qy ot=>⟨[.s 87],[.s 88],rfl,[.s 87],[.s 89],rfl,[.s 87],[.s 90],rfl,[.s 6, .s 88, .b 1006],[.b 1006],rfl,[.s 7, .s 89, .b 1007],[.b 1007],rfl,[.s 90],[.s 8],rfl,?_⟩⟩⟩⟩ |true=>fun um=>⟨fun zg=>⟨[.s 3, .b 1003],[.s 68],rfl,[.s 4, .b 1004],[.s 69],rfl,[.s 6, .s 68, .b 1006],[.b 1006],rfl,[.s 7, .s 69, .b 1007],[.b 1007],rfl,[],[.s 8],rfl,?_⟩,fun zf=>⟨fun xv=>⟨[.s 14, .b 1014],[.s 76],rfl,[.s 4, .b 1004],[.s 77],rfl,[.s 6, .s 76, .b 1006],[.b 1006],rfl,[.s 7, .s 77, .b 1007],[.b 1007],rfl,[],[.s 8],rfl,?_⟩,fun rl=>⟨[.s 14, .b 1014],[.s 78],rfl,[.s 4, .b 1004],[.s 79],rfl,[.s 9],[.s 80],rfl,[.s 2],[.s 81],rfl,[.s 80, .s 81],[.s 82],rfl,⟨?_,?_,?_⟩,[.s 10],[.s 83],rfl,[.s 83],[.s 84],rfl,⟨?_,?_⟩,[.s 10],[.s 85],rfl,[.s 85],[.s 86],rfl,⟨?_,?_⟩,[.s 78, .s 79, .s 82, .s 84, .s 86, .b 0, .b 1, .b 2, .b 1000630000, .b 1000630001, .b 1000880001, .b 1000880000],[.s 87, .b 0, .b 1, .b 2, .b 1000630000, .b 1000630001, .b 1000880000, .b 1000880001],rfl,⟨⟨⟨tv,tv,tv,tv,tv,tv,tv,tv,tv⟩,⟨tv,tv,tv,tv,tv,tv,tv,tv,tv,tv,tv⟩,tv,tv,tv,tv⟩,⟨?_,?_,?_,?_,?_⟩,?_,?_,?_,?_,?_,?_,?_⟩,?_,fun x25 EL=>⟨[.s 87],[.s 88],rfl,[.s 87],[.s 89],rfl,[.s 87],[.s 90],rfl,[.s 6, .s 88, .b 1006],[.b 1006],rfl,[.s 7, .s 89, .b 1007],[.b 1007],rfl,[.s 90],[.s 8],rfl,?_⟩⟩⟩⟩⟩⟩⟩⟩
 all_goals first|refine au ?_|refine aw ?_|exact sa|(dsimp only [sE,qO];omega)|(dsimp only [lq,kg];omega)|(dsimp only [ix,jG];omega)|(dsimp only [eo,fD];omega)|(dsimp only [mb,mI];omega)|(dsimp only [vT,tg];omega)|exact sb|exact ll.wf.rd|exact hf|exact ll.wf|exact cq.rd|exact cq.m1|exact ⟨_,rfl⟩|exact Nat.le_trans ll.g (by decide)|exact Nat.le_trans ll.d (by decide)|exact hcu.1.mono (by decide)|exact hcu.2.1|exact Nat.zero_le _|skip
 all_goals first |exact absurd (show true=false from oU) Bool.noConfusion |exact absurd (show false=true from zg) Bool.noConfusion |skip
 ·show (((iX (ai,aj,ak,an,ag,ao,ah,aq) (n1,n2,n3,n4,n5,n6,n7,n8,n9,ck)).size+(kF (size - (iX (ai,aj,ak,an,ag,ao,ah,aq) (n1,n2,n3,n4,n5,n6,n7,n8,n9,ck)).size)).size:Nat):Int)≤imax
  rw [kV];unfold imax;omega
 ·have e:iU (ai,aj,ak,an,ag,ao,ah,aq) (n1,n2,n3,n4,n5,n6,n7,n8,n9,ck) size=((ai,aj,ak,an,ag,ao,ah,aq),kb (n1,n2,n3,n4,n5,n6,n7,n8,n9,ck) size (cO (n1,n2,n3,n4,n5,n6,n7,n8,n9,ck)),true):=by unfold iU;rw [show decide (size≥n3)=true from w5,show decide (ba size 12=ck)=true from w8];rfl
  refine ⟨[3,4],[],_,_,_,rfl,rp,(),0,tv,?_,?_,rfl⟩
  ·(show _=eG (ai,aj,ak,an,ag,ao,ah,aq) (n1,n2,n3,n4,n5,n6,n7,n8,n9,ck) size);unfold eG;first |(rw [e];rfl) |rfl
  ·(show _=fE (ai,aj,ak,an,ag,ao,ah,aq) (n1,n2,n3,n4,n5,n6,n7,n8,n9,ck) size);unfold fE;first |(rw [e];rfl) |rfl
 ·have hz:(aU (ai,aj,ak,an,ag,ao,ah,aq) (cO (n1,n2,n3,n4,n5,n6,n7,n8,n9,ck)) (ba size 12 - 1) ⟨#[]⟩).2.2=false:=(show false=(aU (ai,aj,ak,an,ag,ao,ah,aq) (cO (n1,n2,n3,n4,n5,n6,n7,n8,n9,ck)) (ba size 12 - 1) ⟨#[]⟩).2.2 from df).symm
  have e:iU (ai,aj,ak,an,ag,ao,ah,aq) (n1,n2,n3,n4,n5,n6,n7,n8,n9,ck) size=((aU (ai,aj,ak,an,ag,ao,ah,aq) (cO (n1,n2,n3,n4,n5,n6,n7,n8,n9,ck)) (ba size 12 - 1) ⟨#[]⟩).1,kb (n1,n2,n3,n4,n5,n6,n7,n8,n9,ck) size (aU (ai,aj,ak,an,ag,ao,ah,aq) (cO (n1,n2,n3,n4,n5,n6,n7,n8,n9,ck)) (ba size 12 - 1) ⟨#[]⟩).2.1,(aU (ai,aj,ak,an,ag,ao,ah,aq) (cO (n1,n2,n3,n4,n5,n6,n7,n8,n9,ck)) (ba size 12 - 1) ⟨#[]⟩).2.2):=by unfold iU;rw [show decide (size≥n3)=true from w5,show decide (ba size 12=ck)=false from w9];rfl
  refine ⟨[3,4],[],_,_,_,rfl,rp,(),0,tv,?_,?_,rfl⟩
  ·(show _=eG (ai,aj,ak,an,ag,ao,ah,aq) (n1,n2,n3,n4,n5,n6,n7,n8,n9,ck) size);unfold eG;first |(rw [e,hz];rfl) |(rw [e];rfl) |rfl
  ·(show _=fE (ai,aj,ak,an,ag,ao,ah,aq) (n1,n2,n3,n4,n5,n6,n7,n8,n9,ck) size);unfold fE;first |(rw [e,hz];rfl) |(rw [e];rfl) |rfl
 ·have hz:(aU (ai,aj,ak,an,ag,ao,ah,aq) (cO (n1,n2,n3,n4,n5,n6,n7,n8,n9,ck)) (ba size 12 - 1) ⟨#[]⟩).2.2=true:=(show true=(aU (ai,aj,ak,an,ag,ao,ah,aq) (cO (n1,n2,n3,n4,n5,n6,n7,n8,n9,ck)) (ba size 12 - 1) ⟨#[]⟩).2.2 from ka).symm
  have e:iU (ai,aj,ak,an,ag,ao,ah,aq) (n1,n2,n3,n4,n5,n6,n7,n8,n9,ck) size=((aU (ai,aj,ak,an,ag,ao,ah,aq) (cO (n1,n2,n3,n4,n5,n6,n7,n8,n9,ck)) (ba size 12 - 1) ⟨#[]⟩).1,kb (n1,n2,n3,n4,n5,n6,n7,n8,n9,ck) size (aU (ai,aj,ak,an,ag,ao,ah,aq) (cO (n1,n2,n3,n4,n5,n6,n7,n8,n9,ck)) (ba size 12 - 1) ⟨#[]⟩).2.1,(aU (ai,aj,ak,an,ag,ao,ah,aq) (cO (n1,n2,n3,n4,n5,n6,n7,n8,n9,ck)) (ba size 12 - 1) ⟨#[]⟩).2.2):=by unfold iU;rw [show decide (size≥n3)=true from w5,show decide (ba size 12=ck)=false from w9];rfl
  refine ⟨[1000490000,1000490001],[],_,_,_,rfl,rp,(),0,tv,?_,?_,rfl⟩
  ·(show _=eG (ai,aj,ak,an,ag,ao,ah,aq) (n1,n2,n3,n4,n5,n6,n7,n8,n9,ck) size);unfold eG;first |(rw [e,hz];rfl) |(rw [e];rfl) |rfl
  ·(show _=fE (ai,aj,ak,an,ag,ao,ah,aq) (n1,n2,n3,n4,n5,n6,n7,n8,n9,ck) size);unfold fE;first |(rw [e,hz];rfl) |(rw [e];rfl) |rfl
 ·have hz:(cA (ai,aj,ak,an,ag,ao,ah,aq) (cO (n1,n2,n3,n4,n5,n6,n7,n8,n9,ck)) (ba size 12)).2.2=false:=(show false=(cA (ai,aj,ak,an,ag,ao,ah,aq) (cO (n1,n2,n3,n4,n5,n6,n7,n8,n9,ck)) (ba size 12)).2.2 from iA).symm
  have xl:=hcu.2.2 hz
  have e:iU (ai,aj,ak,an,ag,ao,ah,aq) (n1,n2,n3,n4,n5,n6,n7,n8,n9,ck) size=((cA (ai,aj,ak,an,ag,ao,ah,aq) (cO (n1,n2,n3,n4,n5,n6,n7,n8,n9,ck)) (ba size 12)).1,(n1,n2,n3,n4,n5,n6,n7,n8,n9,ck),false):=by unfold iU J8;rw [show decide (size≥n3)=false from dC,hz];rfl
  refine ⟨[3,4],[],_,_,_,rfl,rp,(),0,tv,?_,?_,rfl⟩
  ·(show _=eG (ai,aj,ak,an,ag,ao,ah,aq) (n1,n2,n3,n4,n5,n6,n7,n8,n9,ck) size);unfold eG;first |(rw [e];rfl) |(rw [e];exact congrArg (fun x=>AV.t [A0.a x,ndA (n1,n2,n3,n4,n5,n6,n7,n8,n9,ck),A0.s (SV.q false)]) (nD (b0:=0) (b1:=1) (b2:=2) (b3:=5) (b4:=6) xl ll.wf)) |(rw [e];have h3:=xl.gone;have h4:=xl.dead;exact congr (congrArg (fun (a b:List Pt)=>[AV.rs aa (cA (ai,aj,ak,an,ag,ao,ah,aq) (cO (n1,n2,n3,n4,n5,n6,n7,n8,n9,ck)) (ba size 12)).1.rows,AV.rs ae (cA (ai,aj,ak,an,ag,ao,ah,aq) (cO (n1,n2,n3,n4,n5,n6,n7,n8,n9,ck)) (ba size 12)).1.refs,AV.rs ae (cA (ai,aj,ak,an,ag,ao,ah,aq) (cO (n1,n2,n3,n4,n5,n6,n7,n8,n9,ck)) (ba size 12)).1.last,AV.zz,AV.zz,AV.rs ab a,AV.rs ab b]) h3.symm) h4.symm) |rfl
  ·(show _=fE (ai,aj,ak,an,ag,ao,ah,aq) (n1,n2,n3,n4,n5,n6,n7,n8,n9,ck) size);unfold fE;first |(rw [e];rfl) |(rw [e];exact congrArg (fun x=>AV.t [A0.a x,ndA (n1,n2,n3,n4,n5,n6,n7,n8,n9,ck),A0.s (SV.q false)]) (nD (b0:=0) (b1:=1) (b2:=2) (b3:=5) (b4:=6) xl ll.wf)) |(rw [e];have h3:=xl.gone;have h4:=xl.dead;exact congr (congrArg (fun (a b:List Pt)=>[AV.rs aa (cA (ai,aj,ak,an,ag,ao,ah,aq) (cO (n1,n2,n3,n4,n5,n6,n7,n8,n9,ck)) (ba size 12)).1.rows,AV.rs ae (cA (ai,aj,ak,an,ag,ao,ah,aq) (cO (n1,n2,n3,n4,n5,n6,n7,n8,n9,ck)) (ba size 12)).1.refs,AV.rs ae (cA (ai,aj,ak,an,ag,ao,ah,aq) (cO (n1,n2,n3,n4,n5,n6,n7,n8,n9,ck)) (ba size 12)).1.last,AV.zz,AV.zz,AV.rs ab a,AV.rs ab b]) h3.symm) h4.symm) |rfl
 ·have hz:(cA (ai,aj,ak,an,ag,ao,ah,aq) (cO (n1,n2,n3,n4,n5,n6,n7,n8,n9,ck)) (ba size 12)).2.2=true:=(show true=(cA (ai,aj,ak,an,ag,ao,ah,aq) (cO (n1,n2,n3,n4,n5,n6,n7,n8,n9,ck)) (ba size 12)).2.2 from um).symm
  have e:iU (ai,aj,ak,an,ag,ao,ah,aq) (n1,n2,n3,n4,n5,n6,n7,n8,n9,ck) size=((cA (ai,aj,ak,an,ag,ao,ah,aq) (cO (n1,n2,n3,n4,n5,n6,n7,n8,n9,ck)) (ba size 12)).1,kb (n1,n2,n3,n4,n5,n6,n7,n8,n9,ck) size (cA (ai,aj,ak,an,ag,ao,ah,aq) (cO (n1,n2,n3,n4,n5,n6,n7,n8,n9,ck)) (ba size 12)).2.1,true):=by unfold iU J8;rw [show decide (size≥n3)=false from dC,hz,show decide (ba size 12=0)=true from xv];rfl
  refine ⟨[1000630000,1000630001],[],_,_,_,rfl,rp,(),0,tv,?_,?_,rfl⟩
  ·(show _=eG (ai,aj,ak,an,ag,ao,ah,aq) (n1,n2,n3,n4,n5,n6,n7,n8,n9,ck) size);unfold eG;first |(rw [e];rfl) |rfl
  ·(show _=fE (ai,aj,ak,an,ag,ao,ah,aq) (n1,n2,n3,n4,n5,n6,n7,n8,n9,ck) size);unfold fE;first |(rw [e];rfl) |rfl
 ·have h1:=ca (p:=size≥n3) dC
  have h2:=ca (p:=ba size 12=0) rl
  show (ba size 12 - 1) * 12≤(((iX (ai,aj,ak,an,ag,ao,ah,aq) (n1,n2,n3,n4,n5,n6,n7,n8,n9,ck)).extract 0 size.toNat).size:Int)
  rw [ByteArray.size_extract];omega
 ·show ((iX (ai,aj,ak,an,ag,ao,ah,aq) (n1,n2,n3,n4,n5,n6,n7,n8,n9,ck)).extract 0 size.toNat).size≤100000000
  rw [ByteArray.size_extract];omega
 ·have hz:(cA (ai,aj,ak,an,ag,ao,ah,aq) (cO (n1,n2,n3,n4,n5,n6,n7,n8,n9,ck)) (ba size 12)).2.2=true:=(show true=(cA (ai,aj,ak,an,ag,ao,ah,aq) (cO (n1,n2,n3,n4,n5,n6,n7,n8,n9,ck)) (ba size 12)).2.2 from um).symm
  have e:iU (ai,aj,ak,an,ag,ao,ah,aq) (n1,n2,n3,n4,n5,n6,n7,n8,n9,ck) size=zA (cA (ai,aj,ak,an,ag,ao,ah,aq) (cO (n1,n2,n3,n4,n5,n6,n7,n8,n9,ck)) (ba size 12)).1 (kb (n1,n2,n3,n4,n5,n6,n7,n8,n9,ck) size (cA (ai,aj,ak,an,ag,ao,ah,aq) (cO (n1,n2,n3,n4,n5,n6,n7,n8,n9,ck)) (ba size 12)).2.1) ((iX (ai,aj,ak,an,ag,ao,ah,aq) (n1,n2,n3,n4,n5,n6,n7,n8,n9,ck)).extract 0 size.toNat) (ba size 12 - 1) (ba size 12 - 1):=by unfold iU J8;rw [show decide (size≥n3)=false from dC,hz,show decide (ba size 12=0)=false from rl];rfl
  refine ⟨[1000880000,1000880001],[],_,_,_,rfl,rp,(),0,tv,?_,?_,rfl⟩
  ·(show _=eG (ai,aj,ak,an,ag,ao,ah,aq) (n1,n2,n3,n4,n5,n6,n7,n8,n9,ck) size);unfold eG;first |(rw [e];rfl) |rfl
  ·(show _=fE (ai,aj,ak,an,ag,ao,ah,aq) (n1,n2,n3,n4,n5,n6,n7,n8,n9,ck) size);unfold fE;first |(rw [e];rfl) |rfl
end GL
namespace GL
abbrev fj:=ax×aZ×Bool
abbrev aW (F:fj) (id:Int):fl:=(cF F.1 F.2.1 id).1
def mY (F:fj) (id:Int) (n:fl):fj:=bif F.2.2 then F else ((aU F.1 F.2.1 id (az n)).1,(aU F.1 F.2.1 id (az n)).2.1,!(aU F.1 F.2.1 id (az n)).2.2)
theorem PX {F:fj} {id:Int} {n:fl} (h:F.2.2=true):mY F id n=F:=by unfold mY;rw [h];rfl
theorem PW {F:fj} {id:Int} {n:fl} (h:F.2.2=false):mY F id n=((aU F.1 F.2.1 id (az n)).1,(aU F.1 F.2.1 id (az n)).2.1,!(aU F.1 F.2.1 id (az n)).2.2):=by unfold mY;rw [h];rfl
abbrev zZ (F:fj) (id:Int) (text:ByteArray):ax×aZ×Bool:=dB F.1 (cO (aW F id)) text
def bZ (F:fj) (id:Int) (l:List eU):fj:=bif F.2.2 then F else mY ((zZ F id (dW l)).1,F.2.1,!(zZ F id (dW l)).2.2) id (kb (aW F id) (dW l).size (zZ F id (dW l)).2.1)
theorem JI {F:fj} {id:Int} {l:List eU} (h:F.2.2=true):bZ F id l=F:=by unfold bZ;rw [h];rfl
theorem JH {F:fj} {id:Int} {l:List eU} (h:F.2.2=false):bZ F id l=mY ((zZ F id (dW l)).1,F.2.1,!(zZ F id (dW l)).2.2) id (kb (aW F id) (dW l).size (zZ F id (dW l)).2.1):=by unfold bZ;rw [h];rfl
def plE (F:fj) (a:Int):Int×Int:=bif decide (a < 0) then (0,2) else bif decide ((aW F a).1≠2) then (0,4) else (a,0)
abbrev nZ (path:ByteArray):List ByteArray:=(bq path).take (((bq path).length:Int) - 1).toNat
def dK (F:fj) (path:ByteArray):Int×Int:=bif decide (((bq path).length:Int)=0) then (0,3) else plE F (uL F.1 F.2.1 (nZ path))
def bo (F:fj) (path:ByteArray):Int:=uL F.1 F.2.1 (bq path)
def dp (F:fj) (path:ByteArray):Int×Int:=bif decide ((dK F path).2 > 0) then (0,(dK F path).2) else bif decide (bo F path≥0) then (0,3) else ((dK F path).1,0)
theorem aeC (s:ax) (t:aZ):∀ {l:List ByteArray} {k:Int},-1≤k→k≤15→-1≤EV s t l k∧EV s t l k≤15
 |[],k,h0,h1=>⟨h0,h1⟩
 |x::l,k,h0,h1=>by
  cases h: !(bE s (cF s t k).1).2 with
  |true=>rw [aab h];omega
  |false=>cases h2:decide (lu (bE s (cF s t k).1).1 x < 0) with
   |true=>rw [aaa h2];omega
   |false=>
    rw [MQ h h2]
    have h3:=ca h2
    have h4:=zb (l:=(bE s (cF s t k).1).1) (name:=x) (by omega)
    have h5:=(FM s (cF s t k).1).2 _ (bS (ek:=aG) (l:=(bE s (cF s t k).1).1) (k:=(lu (bE s (cF s t k).1).1 x).toNat) (by omega))
    exact aeC s t (by omega) (by omega)
theorem aeB (s:ax) (t:aZ) (l:List ByteArray): -1≤uL s t l∧uL s t l≤15:=aeC s t (by omega) (by omega)
theorem Z9 (s:ax) (t:aZ) {x:ByteArray}:∀ {l:List ByteArray} {k:Int},0≤EV s t (l++[x]) k→0≤k→0≤EV s t l k∧(bE s (cF s t (EV s t l k)).1).2=true∧0≤lu (bE s (cF s t (EV s t l k)).1).1 x∧EV s t (l++[x]) k=(nth aG (bE s (cF s t (EV s t l k)).1).1 (lu (bE s (cF s t (EV s t l k)).1).1 x).toNat).2
 |[],k,h,hk=>by
  have h:0≤EV s t [x] k:=h
  cases h1: !(bE s (cF s t k).1).2 with
  |true=>rw [aab h1] at h;exact absurd h (by decide)
  |false=>cases h2:decide (lu (bE s (cF s t k).1).1 x < 0) with
   |true=>rw [aaa h2] at h;exact absurd h (by decide)
   |false=>
    have h3:=ca h2
    exact ⟨hk,cB h1,by show 0≤lu (bE s (cF s t k).1).1 x;omega,MQ h1 h2⟩
 |y::l,k,h,hk=>by
  have h:0≤EV s t (y::(l++[x])) k:=h
  cases h1: !(bE s (cF s t k).1).2 with
  |true=>rw [aab h1] at h;exact absurd h (by decide)
  |false=>cases h2:decide (lu (bE s (cF s t k).1).1 y < 0) with
   |true=>rw [aaa h2] at h;exact absurd h (by decide)
   |false=>
    have h3:=ca h2
    have h4:=zb (l:=(bE s (cF s t k).1).1) (name:=y) (by omega)
    have h5:=(FM s (cF s t k).1).2 _ (bS (ek:=aG) (l:=(bE s (cF s t k).1).1) (k:=(lu (bE s (cF s t k).1).1 y).toNat) (by omega))
    rw [MQ h1 h2] at h
    rw [MQ h1 h2,List.cons_append,MQ h1 h2]
    exact Z9 s t h (by omega)
structure cT (F:fj) (n:Nat):Prop where
 wg:F.1.wg n
 ok:F.2.1.ok
 fs:F.2.2=false→FS F.1 F.2.1
theorem cT.mono {F:fj} {n m:Nat} (h:cT F n) (hm:n≤m):cT F m:=⟨h.wg.mono hm,h.ok,h.fs⟩
theorem cT.HQ {F:fj} {n:Nat} {id:Int} {nd:fl} (hw:F.1.wg n) (cq:F.2.1.ok) (h0:0≤id) (h1:id≤15) (hf:F.2.2=false→(aU F.1 F.2.1 id (az nd)).2.2=true→FS (aU F.1 F.2.1 id (az nd)).1 (aU F.1 F.2.1 id (az nd)).2.1):cT (mY F id nd) (n+6):=by
 cases hfu:F.2.2 with
 |true=>rw [PX hfu];exact ⟨hw.mono (by omega),cq,fun h=>by rw [hfu] at h;cases h⟩
 |false=>
  rw [PW hfu]
  have h2:=nq (k:=id) (text:=az nd) hw cq h0 h1
  exact ⟨h2.1,h2.2.1,fun h=>hf hfu (cB h)⟩
theorem FS.aW {s:ax} {t:aZ} {b:Bool} (h:FS s t) (i:Nat):GL.aW (s,t,b) i=nodeAt s t i:=by
 show (GL.cF s t i).1=_
 rw [h.cF (by omega)];rfl
theorem cT.write {F:fj} {n i:Nat} {l:List eU} (h:cT F n) (hi:i < 16):cT (bZ F i l) (n+123)∧(F.2.2=false→(bZ F i l).2.2=false→∀k,k < 16→k≠i→getM (bZ F i l).1 (bZ F i l).2.1 k=getM F.1 F.2.1 k):=by
 obtain ⟨s,t,b⟩:=F
 cases b with
 |true=>rw [JI rfl];exact ⟨h.mono (by omega),fun h=>by cases h⟩
 |false=>
  have uK:=h.fs rfl
  rw [JH rfl]
  have hb:=UR (text:=dW l) h.wg (o0 s t i)
  cases hz:(zZ (s,t,false) i (dW l)).2.2 with
  |false=>
   refine ⟨(cT.HQ (F:=((zZ (s,t,false) i (dW l)).1,t,true)) (n:=n+117) hb.1 h.ok (by omega) (by omega) fun h=>by cases h).mono (by omega),fun _ h2=>?_⟩
   rw [PX rfl] at h2;cases h2
  |true=>
   have key:=fun hz2=>uK.write (i:=i) (text:=dW l) hi (by rw [←uK.aW (b:=false) i];exact hz) hz2
   rw [←uK.aW (b:=false) i] at key
   refine ⟨(cT.HQ (F:=((zZ (s,t,false) i (dW l)).1,t,false)) (n:=n+117) hb.1 h.ok (by omega) (by omega) fun _ hz2=>(key hz2).1).mono (by omega),fun _ h2=>?_⟩
   rw [Bool.not_true,PW rfl] at h2 ⊢
   exact (key (cB h2)).2.1
theorem T5 {l:List ByteArray}:∀ {f k:Nat},0≤frF f l k→((k:Int)≤frF f l k∧frF f l k < ((k+f:Nat):Int))∧(frF f l k≥(l.length:Int)∨nth aa l (frF f l k).toNat=⟨#[]⟩)
 |0,k,h=>absurd (show (0:Int)≤-1 from h) (by decide)
 |f+1,k,h=>by
  cases h1:decide ((k:Int)≥(l.length:Int)) with
  |true=>rw [ag8 h1];exact ⟨⟨Int.le_refl _,by omega⟩, .inl (cw h1)⟩
  |false=>cases h2:decide (nth aa l k=⟨#[]⟩) with
   |true=>rw [ag7 h2];exact ⟨⟨Int.le_refl _,by omega⟩, .inr (by rw [Int.toNat_natCast];exact cw h2)⟩
   |false=>
    rw [ag6 h1 h2] at h ⊢
    have:=T5 (l:=l) (f:=f) (k:=k+1) h
    exact ⟨⟨by omega,by omega⟩,this.2⟩
theorem T4 {s:ax} {t:aZ} (h:Tree s t t.d) (h0:0≤xm s t):xm s t < 16∧getM s t (xm s t).toNat=⟨#[]⟩:=by
 have h1:=T5 (l:=bg s t) (f:=16) (k:=0) h0
 refine ⟨by have:=h1.1.2;unfold xm;omega,?_⟩
 by_cases hm:(xm s t).toNat < t.many.toNat
 ·rw [←xP h.ok hm]
  rcases h1.2 with h2 |h2
  ·rw [fg h.ok] at h2
   exact absurd hm (by unfold xm at *;omega)
  ·exact h2
 ·exact mW h (by have:=h.m0;omega)
theorem cT.make {F:fj} {n:Nat} {kind:Int} (h:cT F n) (hf:F.2.2=false) (h0:0≤xm F.1 F.2.1):cT (mY F (xm F.1 F.2.1) (kind,1,0,ny)) (n+6):=by
 have uK:=h.fs hf
 obtain ⟨h1,h2⟩:=T4 uK.fi.tree h0
 refine cT.HQ h.wg h.ok h0 (by omega) fun _ hz=>?_
 obtain ⟨i,hi⟩:∃i:Nat,xm F.1 F.2.1=i:=⟨(xm F.1 F.2.1).toNat,by omega⟩
 rw [hi] at hz h2 ⊢
 rw [Int.toNat_natCast] at h2
 exact (uK.make (by omega) h2 hz).1
theorem cT.adO {F:fj} {n i:Nat} {nd:fl} {l:Int} (h:cT F n) (hi:i < 16) (hi0:0 < i) (hn:F.2.2=false→nd=nodeAt F.1 F.2.1 i):cT (mY F i (nd.1,l,nd.2.2)) (n+6):=by
 refine cT.HQ h.wg h.ok (by omega) (by omega) fun hf hz=>?_
 rw [hn hf] at hz ⊢
 exact ((h.fs hf).adO hi hi0 hz).1
theorem cT.drop {F:fj} {n i:Nat} (h:cT F n) (hf:F.2.2=false) (hi:i < 16) (hi0:0 < i):ND F.1 (cO (cF F.1 F.2.1 i).1)=true∧((ch F.1 F.2.1 i).2.2=true→FS (ch F.1 F.2.1 i).1 (ch F.1 F.2.1 i).2.1):=by
 have uK:=h.fs hf
 refine ⟨?_,fun hz=>(uK.drop hi hi0 hz).1⟩
 have hn:(cF F.1 F.2.1 i).1=nodeAt F.1 F.2.1 i:=by rw [uK.cF (by omega)];rfl
 rw [hn]
 exact (UW (uK.at hi).1.rm).1
theorem X5 {s:ax} {t:aZ} {k:Int} {n:Nat} (hs:s.wg n) (ht:t.ok) (h0:0≤k) (h1:k≤15):(ch s t k).1.wg (n+67)∧(ch s t k).2.1.ok:=by
 have hna:=aaI (s:=s) (o0 s t k).rd.ok
 have j6:=CW (l:=allM s (cO (cF s t k).1)) hs.wf
 have hu:(xI s t k).wg (n+40):=⟨j6.1,by have:=j6.2.1;have:=hna.2;have:=hs.g;show (dq _ s).gone.length≤_;omega,by have:=j6.2.2;have:=hna.2;have:=hs.d;show (dq _ s).dead.length≤_;omega,by show (dq _ s).bY≤_;rw [yS];have:=hs.t;omega⟩
 have hp:=nq (k:=k) (text:=⟨#[]⟩) hu ht h0 h1
 have hl:=IB (s:=s) ht k
 rw [q9]
 cases !(aU (xI s t k) t k ⟨#[]⟩).2.2 with
 |true=>exact ⟨hp.1.mono (by omega),hp.2.1⟩
 |false=>
  have hc:=FP (many:=mw s t k) hp.1 hp.2.1 hl.1 (Int.le_trans hl.2 ht.m1)
  exact ⟨hc.1,hc.2.1⟩
theorem OL {text:ByteArray}:∀ {f:Nat} {k:Int} {s:ax} {t:aZ} {n:Nat},s.wg n→t.ok→0≤k→k+f≤16→(qD f k s t text).1.wg (n+6 * f)∧(qD f k s t text).2.1.ok
 |0,k,s,t,n,hs,ht,_,_=>⟨hs,ht⟩
 |f+1,k,s,t,n,hs,ht,h0,h1=>by
  have hp:=nq (k:=k) (text:=eE text k) hs ht h0 (by omega)
  cases hz:(aU s t k (eE text k)).2.2 with
  |false=>rw [V4 hz];exact ⟨hp.1.mono (by omega),ht⟩
  |true=>
   rw [V3 hz]
   have:=OL (text:=text) (f:=f) (k:=k+1) hp.1 hp.2.1 (by omega) (by omega)
   exact ⟨this.1.mono (by omega),this.2⟩
theorem kt.p13 {s:ax} {t:aZ} {E:Nat→Bool} {O:Nat→Nat} {text:ByteArray}:∀ {f:Nat} {k:Int} {u:ax} {t2:aZ},kt s t E O u t2→0≤k→k+f≤16→(qD f k u t2 text).2.2=true→kt s t E O (qD f k u t2 text).1 (qD f k u t2 text).2.1
 |0,k,u,t2,h,_,_,_=>h
 |f+1,k,u,t2,h,h0,h1,hz=>by
  cases hx:(aU u t2 k (eE text k)).2.2 with
  |false=>rw [V4 hx] at hz;cases hz
  |true=>
   rw [V3 hx] at hz ⊢
   exact kt.p13 (h.put h0 (by omega) hx).1 (by omega) (by omega) hz
theorem acx {a:Int} {m:Nat} (h0:0≤a) (h1:a+m≤192) (h2:1≤m):0≤a / 12∧a / 12+(((a+m - 1) / 12+1 - a / 12).toNat:Int)≤16:=by omega
theorem ahf {s:ax} {nd:fl} {a:Int} {text:ByteArray} {n:Nat} (hs:s.wg n) (ht:(cO nd).ok) (h0:0≤a) (h1:a+text.size≤192):(nB s nd a text).1.wg (n+96)∧(cO (nB s nd a text).2.1).ok:=by
 cases h:decide (text=⟨#[]⟩) with
 |true=>rw [NT h];exact ⟨hs.mono (by omega),ht⟩
 |false=>
  have h2:=size_pos (ca h)
  have hb:=acx h0 h1 h2
  rw [NS h]
  have:=OL (text:=U1 s nd a text) (f:=((a+text.size - 1) / 12+1 - a / 12).toNat) hs ht hb.1 hb.2
  exact ⟨this.1.mono (by omega),this.2⟩
theorem kt.iA {s u:ax} {t:aZ} {E:Nat→Bool} {O:Nat→Nat} {nd:fl} {a:Int} {text:ByteArray} (h:kt s t E O u (cO nd)) (h0:0≤a) (h1:a+text.size≤192) (hz:(nB u nd a text).2.2=true):kt s t E O (nB u nd a text).1 (cO (nB u nd a text).2.1):=by
 cases hd:decide (text=⟨#[]⟩) with
 |true=>rw [NT hd];exact h
 |false=>
  have hb:=acx h0 h1 (size_pos (ca hd))
  rw [NS hd] at hz ⊢
  exact h.p13 hb.1 hb.2 hz
theorem ah9 {s:ax} {nd:fl} {size:Int} {n:Nat} (hs:s.wg n) (uy:cm nd=true) (hn1:nd.1=1) (h0:0≤size) (h1:size≤192):(iU s nd size).1.wg (n+96)∧(cO (iU s nd size).2.1).ok:=by
 have cq:=nW uy
 obtain ⟨hm,CQ,hm1⟩:=node1 uy hn1
 have hpm:ba size 12=(size+12 - 1) / 12:=rfl
 have hpn:ba nd.2.2.1 12=(nd.2.2.1+12 - 1) / 12:=rfl
 unfold iU
 cases hd:decide (size≥nd.2.2.1) with
 |true=>
  have hd:=cw hd
  cases hq:decide (ba size 12=(cO nd).many) with
  |true=>exact ⟨hs.mono (by omega),cq⟩
  |false=>
   have hq:=ca hq
   have hp:=nq (k:=ba size 12 - 1) (text:=⟨#[]⟩) hs cq (by omega) (by omega)
   exact ⟨hp.1.mono (by omega),hp.2.1⟩
 |false=>
  have hc:=FP (many:=ba size 12) hs cq (by omega) (by omega)
  show (J8 _ nd _ size _).1.wg _∧(cO (J8 _ nd _ size _).2.1).ok
  unfold J8
  cases !(cA s (cO nd) (ba size 12)).2.2 with
  |true=>exact ⟨hc.1.mono (by omega),cq⟩
  |false=>
   cases hz:decide (ba size 12=0) with
   |true=>exact ⟨hc.1.mono (by omega),hc.2.1⟩
   |false=>
    have hz:=ca hz
    have:=OL (text:=(iX s nd).extract 0 size.toNat) (f:=(ba size 12 - 1+1 - (ba size 12 - 1)).toNat) (k:=ba size 12 - 1) hc.1 hc.2.1 (by omega) (by omega)
    exact ⟨this.1.mono (by omega),this.2⟩
theorem kt.c13 {s u:ax} {t:aZ} {E:Nat→Bool} {O:Nat→Nat} {nd:fl} {size:Int} (h:kt s t E O u (cO nd)) (uy:cm nd=true) (hn1:nd.1=1) (h0:0≤size) (h1:size≤192) (hz:(iU u nd size).2.2=true):kt s t E O (iU u nd size).1 (cO (iU u nd size).2.1):=by
 obtain ⟨hm,CQ,hm1⟩:=node1 uy hn1
 have hpm:ba size 12=(size+12 - 1) / 12:=rfl
 have hpn:ba nd.2.2.1 12=(nd.2.2.1+12 - 1) / 12:=rfl
 unfold iU at hz ⊢
 cases hd:decide (size≥nd.2.2.1) with
 |true=>
  rw [hd] at hz
  have hd:=cw hd
  cases hq:decide (ba size 12=(cO nd).many) with
  |true=>exact h
  |false=>
   rw [hq] at hz
   have hq:=ca hq
   exact (h.put (by omega) (by omega) hz).1
 |false=>
  rw [hd] at hz
  have hz:(J8 (cA u (cO nd) (ba size 12)) nd (iX u nd) size (ba size 12)).2.2=true:=hz
  show kt s t E O (J8 (cA u (cO nd) (ba size 12)) nd (iX u nd) size (ba size 12)).1 (cO (J8 (cA u (cO nd) (ba size 12)) nd (iX u nd) size (ba size 12)).2.1)
  unfold J8 at hz ⊢
  cases hc:(cA u (cO nd) (ba size 12)).2.2 with
  |false=>rw [hc] at hz;cases hz
  |true=>
   rw [hc] at hz
   have hB:=(h.cut (by omega) (by omega) hc).1
   cases hq:decide (ba size 12=0) with
   |true=>exact hB
   |false=>
    rw [hq] at hz
    have hq:=ca hq
    exact kt.p13 (f:=(ba size 12 - 1+1 - (ba size 12 - 1)).toNat) hB (by omega) (by omega) hz
theorem cT.change {F:fj} {n i:Nat} {r:ax×fl×Bool} (h:cT F n) (hf:F.2.2=false) (hi:i < 16) (hi0:0 < i) (hw:r.1.wg (n+96)) (hB:r.2.2=true→kt F.1 F.2.1 (rL E0 i) O0 r.1 (cO r.2.1)):cT (mY (r.1,F.2.1,!r.2.2) i r.2.1) (n+102):=by
 refine cT.HQ (F:=(r.1,F.2.1,!r.2.2)) hw h.ok (by omega) (by omega) fun hb hz=>?_
 exact ((h.fs hf).back hi (hB (cB hb)) (fun e=>absurd e (by omega)) hz).1
end GL
namespace GL
def j5 (same:Bool):ax:=(List.replicate 64 ⟨#[]⟩,List.replicate 64 0,List.replicate 64 0,1,[],0,[],same)
def tm:Prop:=True
def s9:AV:=.a [.xs 0 1 0 64, .xs 1 1 0 64]
def vo:List AV:=[.rs ae (List.replicate 64 0), .rs ae (List.replicate 64 0)]
def y9:Con where
 A:=[]
 B:=[]
 pre:=fun x b=>tm
 α:=fun _ _=>Unit
 φ:=fun _ _ _=>True
 r:=fun x b _=>s9
 o:=fun x b _=>vo
 nf:=2
set_option maxRecDepth 100000 in
theorem XJ:Has Tryz.prog 64 y9:=by
 refine Has.ofE (fun _=>true) (fun _=>false) (fun _=>false) (l:=[]) trivial (fn:=Tryz.f64) Tryz.func64 rfl (by decide) (cH rfl) ?_
 rintro _ _ (hp:tm)
 show vc _ _ _ _ (entry [] []) _
 refine ⟨[.b 1001],[.s 1, .b 1001],rfl,⟨?_,?_,?_⟩,[.b 1002],[.s 2, .b 1002],rfl,⟨?_,?_,?_⟩,[.s 1, .s 2],[.s 3],rfl,[.s 0, .s 3, .b 1000],[.b 1000],rfl,?_⟩
 all_goals first|refine au ?_|refine aw ?_|exact sa|exact sb|skip
 refine ⟨[1001,1002],[],_,_,_,rfl,rp,(),tv,?_,?_,rfl⟩
 ·(show _=s9);unfold s9;first |rfl
 ·(show _=vo);unfold vo;first |rfl
def lP (same:Bool):Prop:=True
def s8 (same:Bool):AV:=.a (lA 0 1 2 3 4 (j5 same))
def vn (same:Bool):List AV:=[.rs aa (j5 same).rows, .rs ae (j5 same).refs, .rs ae (j5 same).last, .rs ab (j5 same).gone, .rs ab (j5 same).dead]
def kS:Con where
 A:=[.s .bool]
 B:=[]
 pre:=fun x b=>lP x
 α:=fun _ _=>Unit
 φ:=fun _ _ _=>True
 r:=fun x b _=>s8 x
 o:=fun x b _=>vn x
 nf:=5
set_option maxRecDepth 100000 in
theorem yN:Has Tryz.prog 40 kS:=by
 refine Has.ofE (fun _=>true) (fun _=>false) (fun _=>false) (l:=[(64,y9)]) ⟨XJ,trivial⟩ (fn:=Tryz.f40) Tryz.func40 rfl (by decide) (cH rfl) ?_
 rintro (same:Bool) _ (hp:lP same)
 show vc _ _ _ _ (entry [.q same] []) _
 refine ⟨[.b 1003],[.s 3, .b 1003],rfl,⟨?_,?_,?_⟩,[.b 50001, .b 50000],[.s 4, .b 50000, .b 50001],rfl,⟨tv,tv⟩,?_,fun x1 w2=>⟨[.b 1005],[.s 5, .b 1005],rfl,tv,[.b 1006],[.s 6, .b 1006],rfl,tv,[.s 0],[.s 7],rfl,[.s 3, .s 4, .s 5, .s 6, .s 7],[.s 8],rfl,[.s 2, .s 8, .b 1002],[.b 1002],rfl,?_⟩⟩
 all_goals first|refine au ?_|refine aw ?_|exact sa|(dsimp only [y9,tm];omega)|exact sb|skip
 refine ⟨[1003,50000,50001,1005,1006],[],_,_,_,rfl,rp,(),tv,?_,?_,rfl⟩
 ·(show _=s8 same);unfold s8;first |rfl
 ·(show _=vn same);unfold vn;first |rfl
end GL
end Go.Proofs.YtbfgjadbfjkcdaaGreatDoor
