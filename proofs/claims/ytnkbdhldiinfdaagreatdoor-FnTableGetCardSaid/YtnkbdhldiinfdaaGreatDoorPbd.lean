/- Part 30 of the proof of a drawn law. -/
import Derived.BigCall
import Derived.Lib.OthersKept
import Derived.RegionTactic
import Derived.Shelf.Strings.BuilderF
import Derived.Shelf.Strings.BuilderK
import Derived.WalkKit
import Derived.Test.YtnkbdhldiinfdaaGreatDoorPax
import Derived.Test.YtnkbdhldiinfdaaGreatDoorPbb
import Derived.Test.YtnkbdhldiinfdaaGreatDoorPbc
set_option maxHeartbeats 20000000
set_option maxRecDepth 100000
set_option linter.all false
namespace Go.Proofs.YtnkbdhldiinfdaaGreatDoor
namespace GL
theorem arJ {k s:Int}(h:decide (k=1)=true):bH k s=bif !(ik s 0 (16*12)) then -1 else (s+12-1) / 12:=by have:=aJ h;subst this;rfl
theorem are {k s:Int}(h:decide (k=1)=false) (h2:decide (k=2)=true):bH k s=bif !(ik s 0 (16*128)) then -1 else (s+128-1) / 128:=by have:=aJ h2;subst this;rfl
theorem asd {k s:Int}(h:decide (k=1)=false) (h2:decide (k=2)=false):bH k s= -1:=by unfold bH ko;rw [h,h2];rfl
def ant (k:Int) (s:Int):Prop:=True
def am0 (k:Int) (s:Int):AV:=.s (.int (bH k s))
def ao8 (k:Int) (s:Int):List AV:=[]
def anK:cn where
 A:=[.s .int,.s .int]
 B:=[]
 pre:=λx b=>ant (x.1) (x.2)
 r:=λx b _=>am0 (x.1) (x.2)
 o:=λx b _=>ao8 (x.1) (x.2)
theorem aps:Has Tryz.prog 53 anK:=by
 refine Has.zB zT zF zF (l:=[(32,cr)]) ⟨fM,aa⟩ Tryz.func53 ?_
 rintro⟨(k:Int),(s:Int)⟩ _ (hp:ant k s)
 show vc _ _ _ _ (entry [.int k,.int s] []) _
 have hI:∀e:Int,(!(ik s 0 (16*e)))=false→0≤s∧s≤16*e:=λe h=>cC.1 (cL h)
 refine⟨λw1=>⟨aa,λw2=>?_,λw3=>⟨⟨?_,?_⟩,⟨tv4,aa⟩,λx4 w5=>⟨λw6=>?_,λw7=>⟨⟨?_,?_⟩,⟨?_,?_⟩,⟨?_,?_,?_⟩,?_⟩⟩⟩⟩,λw8=>⟨λw9=>⟨aa,λdy=>?_,λkA=>⟨⟨?_,?_⟩,⟨tv4,aa⟩,λx12 iU=>⟨λgO=>?_,λqK=>⟨⟨?_,?_⟩,⟨?_,?_⟩,⟨?_,?_,?_⟩,?_⟩⟩⟩⟩,λkg=>⟨aa,λxh=>?_,λrS=>⟨⟨?_,?_⟩,⟨tv4,aa⟩,λx19 uI=>⟨λA4=>?_,λA3=>⟨⟨?_,?_⟩,⟨?_,?_⟩,⟨?_,?_,?_⟩,?_⟩⟩⟩⟩⟩⟩
 all_goals first|refine aw ?_|refine ax ?_|exact a8|(dsimp only [cr,df];omega)|exact a7|exact absurd rfl (aA rS)|(have h:=hI 12 w7;show 0≤s+12-1;omega)|(have h:=hI 128 qK;show 0≤s+128-1;omega)|(have h:=hI 12 w7;simp only [gK,imax];omega)|(have h:=hI 128 qK;simp only [gK,imax];omega)|skip
 all_goals first|exact absurd rfl (aA rS)|exact absurd (aJ w2) (by decide)|exact absurd (aJ dy) (by decide)|skip
 ·have e:bH k s= -1:=(arJ w1).trans (by rw [show (!(ik s 0 (16*12)))=true from w6];rfl)
  refine⟨[],[],_,_,_,ζ,az,(),aa,?_,?_,ζ⟩
  ·(show _=am0 k s);unfold am0;first|(rw [e];rfl)|rfl
  ·rfl
 ·have e:bH k s=(s+12-1) / 12:=(arJ w1).trans (by rw [show (!(ik s 0 (16*12)))=false from w7];rfl)
  refine⟨[],[],_,_,_,ζ,az,(),aa,?_,?_,ζ⟩
  ·(show _=am0 k s);unfold am0;first|(rw [e];rfl)|rfl
  ·rfl
 ·have e:bH k s= -1:=(are w8 w9).trans (by rw [show (!(ik s 0 (16*128)))=true from gO];rfl)
  refine⟨[],[],_,_,_,ζ,az,(),aa,?_,?_,ζ⟩
  ·(show _=am0 k s);unfold am0;first|(rw [e];rfl)|rfl
  ·rfl
 ·have e:bH k s=(s+128-1) / 128:=(are w8 w9).trans (by rw [show (!(ik s 0 (16*128)))=false from qK];rfl)
  refine⟨[],[],_,_,_,ζ,az,(),aa,?_,?_,ζ⟩
  ·(show _=am0 k s);unfold am0;first|(rw [e];rfl)|rfl
  ·rfl
 ·have e:bH k s= -1:=asd w8 kg
  refine⟨[],[],_,_,_,ζ,az,(),aa,?_,?_,ζ⟩
  ·(show _=am0 k s);unfold am0;first|(rw [e];rfl)|rfl
  ·rfl
def anr (n:fu):Prop:=True
def an3 (n:fu):AV:=.s (.q (cy n))
def aqy (n:fu):List AV:=[]
def ann:cn where
 A:=[.a [.int,.int,.int,.int,.int,.int,.int,.int,.int,.int]]
 B:=[]
 pre:=λx b=>anr x
 r:=λx b _=>an3 x
 o:=λx b _=>aqy x
theorem aoI:Has Tryz.prog 27 ann:=by
 refine Has.zB zT zF zF (l:=[(53,anK),(32,cr),(54,gM),(55,cB),(56,bG)]) ⟨aps,fM,tJ,jt,eO,aa⟩ Tryz.func27 ?_
 rintro⟨(n1:Int),(n2:Int),(n3:Int),(n4:Int),(n5:Int),(n6:Int),(n7:Int),(n8:Int),(n9:Int),(cw:Int)⟩ _ (hp:anr (n1,n2,n3,n4,n5,n6,n7,n8,n9,cw))
 show vc _ _ _ _ (entry [.a [.int n1,.int n2,.int n3,.int n4,.int n5,.int n6,.int n7,.int n8,.int n9,.int cw]] []) _
 have hbd:=xz n1 n3
 refine⟨⟨tv3,aa⟩,λx1 w2=>⟨λw3=>⟨Sq3,Sq13,ζ,Sq13,Sq14,ζ,Sq14,Sq15,ζ,aa,λw4=>⟨[.s 15,.s 1],Sq16,ζ,[.s 15,.s 16,.b 1001],Sq17,ζ,[.s 15,.s 4],Sq18,ζ,[.s 15,.s 17,.s 18],Sq19,ζ,⟨tv4,aa⟩,?_,λx5 w6=>⟨[.s 15,.s 19],Sq20,ζ,Sq20,Sq21,ζ,aa,λw7=>⟨[.s 21,.s 1],Sq22,ζ,[.s 21,.s 22],Sq23,ζ,[.s 21,.s 23,.b 1001],Sq24,ζ,[.s 21,.s 3],Sq25,ζ,[.s 21,.s 24,.s 25],Sq26,ζ,[.s 21,.s 26],Sq27,ζ,Sq27,Sq28,ζ,aa,λw8=>⟨[.s 28,.s 1],Sq29,ζ,[.s 28,.s 29],Sq30,ζ,[.s 28,.s 30,.b 1001],Sq31,ζ,[.s 28,.s 3],Sq32,ζ,[.s 28,.s 32],Sq33,ζ,⟨tv2,aa⟩,?_,λx9 dy=>⟨[.s 28,.s 31,.s 33],Sq34,ζ,[.s 28,.s 34],Sq35,ζ,Sq35,Sq36,ζ,aa,λkA=>⟨[.s 36,.s 1],Sq37,ζ,[.s 36,.s 37],Sq38,ζ,[.s 36,.s 38,.b 1001],Sq39,ζ,[.s 36,.s 39],Sq40,ζ,⟨⟨tv6,aa⟩,aa⟩,?_,λx12 iU=>⟨[.s 36,.s 40],Sq41,ζ,Sq41,Sq42,ζ,aa,λgO=>⟨[.s 42,.s 1],Sq43,ζ,[.s 42,.s 43],Sq44,ζ,[.s 42,.s 44,.b 1001],Sq45,ζ,[.s 42,.s 45],Sq46,ζ,⟨⟨tv6,aa⟩,aa⟩,?_,λky kg=>⟨[.s 42,.s 46],Sq47,ζ,aa,λxh=>⟨Sq47,Sq48,ζ,Sq47,Sq49,ζ,Sq47,Sq50,ζ,Sq47,Sq51,ζ,Sq47,Sq52,ζ,Sq47,Sq53,ζ,Sq47,Sq54,ζ,Sq47,Sq55,ζ,[.s 42,.s 47,.s 55],Sq56,ζ,[.s 42,.s 56],Sq57,ζ,Sq57,Sq2,ζ,?_⟩,λrS=>⟨[.s 47,.s 1],Sq48,ζ,[.s 47,.s 48],Sq49,ζ,[.s 47,.s 49],Sq50,ζ,[.s 47,.s 50,.b 1001],Sq51,ζ,[.s 47,.s 1],Sq52,ζ,[.s 47,.s 52],Sq53,ζ,[.s 47,.s 53,.b 1001],Sq54,ζ,[.s 47,.s 51,.s 54],Sq55,ζ,[.s 42,.s 47,.s 55],Sq56,ζ,[.s 42,.s 56],Sq57,ζ,Sq57,Sq2,ζ,?_⟩⟩⟩,λoL=>⟨Sq42,Sq43,ζ,Sq42,Sq44,ζ,Sq42,Sq45,ζ,Sq42,Sq46,ζ,Sq42,Sq47,ζ,Sq47,Sq48,ζ,Sq47,Sq49,ζ,Sq47,Sq50,ζ,Sq47,Sq51,ζ,Sq47,Sq52,ζ,Sq47,Sq53,ζ,Sq47,Sq54,ζ,Sq47,Sq55,ζ,Sq42,Sq56,ζ,[.s 42,.s 56],Sq57,ζ,Sq57,Sq2,ζ,?_⟩⟩⟩,λuI=>⟨Sq36,Sq37,ζ,Sq36,Sq38,ζ,Sq36,Sq39,ζ,Sq36,Sq40,ζ,[.s 36,.s 40],Sq41,ζ,Sq41,Sq42,ζ,Sq42,Sq43,ζ,Sq42,Sq44,ζ,Sq42,Sq45,ζ,Sq42,Sq46,ζ,Sq42,Sq47,ζ,Sq47,Sq48,ζ,Sq47,Sq49,ζ,Sq47,Sq50,ζ,Sq47,Sq51,ζ,Sq47,Sq52,ζ,Sq47,Sq53,ζ,Sq47,Sq54,ζ,Sq47,Sq55,ζ,Sq42,Sq56,ζ,[.s 42,.s 56],Sq57,ζ,Sq57,Sq2,ζ,?_⟩⟩⟩,λA4=>⟨Sq28,Sq29,ζ,Sq28,Sq30,ζ,Sq28,Sq31,ζ,Sq28,Sq32,ζ,Sq28,Sq33,ζ,Sq28,Sq34,ζ,[.s 28,.s 34],Sq35,ζ,Sq35,Sq36,ζ,Sq36,Sq37,ζ,Sq36,Sq38,ζ,Sq36,Sq39,ζ,Sq36,Sq40,ζ,[.s 36,.s 40],Sq41,ζ,Sq41,Sq42,ζ,Sq42,Sq43,ζ,Sq42,Sq44,ζ,Sq42,Sq45,ζ,Sq42,Sq46,ζ,Sq42,Sq47,ζ,Sq47,Sq48,ζ,Sq47,Sq49,ζ,Sq47,Sq50,ζ,Sq47,Sq51,ζ,Sq47,Sq52,ζ,Sq47,Sq53,ζ,Sq47,Sq54,ζ,Sq47,Sq55,ζ,Sq42,Sq56,ζ,[.s 42,.s 56],Sq57,ζ,Sq57,Sq2,ζ,?_⟩⟩,λA3=>⟨Sq21,Sq22,ζ,Sq21,Sq23,ζ,Sq21,Sq24,ζ,Sq21,Sq25,ζ,Sq21,Sq26,ζ,[.s 21,.s 26],Sq27,ζ,Sq27,Sq28,ζ,Sq28,Sq29,ζ,Sq28,Sq30,ζ,Sq28,Sq31,ζ,Sq28,Sq32,ζ,Sq28,Sq33,ζ,Sq28,Sq34,ζ,[.s 28,.s 34],Sq35,ζ,Sq35,Sq36,ζ,Sq36,Sq37,ζ,Sq36,Sq38,ζ,Sq36,Sq39,ζ,Sq36,Sq40,ζ,[.s 36,.s 40],Sq41,ζ,Sq41,Sq42,ζ,Sq42,Sq43,ζ,Sq42,Sq44,ζ,Sq42,Sq45,ζ,Sq42,Sq46,ζ,Sq42,Sq47,ζ,Sq47,Sq48,ζ,Sq47,Sq49,ζ,Sq47,Sq50,ζ,Sq47,Sq51,ζ,Sq47,Sq52,ζ,Sq47,Sq53,ζ,Sq47,Sq54,ζ,Sq47,Sq55,ζ,Sq42,Sq56,ζ,[.s 42,.s 56],Sq57,ζ,Sq57,Sq2,ζ,?_⟩⟩⟩,λxK=>⟨Sq15,Sq16,ζ,Sq15,Sq17,ζ,Sq15,Sq18,ζ,Sq15,Sq19,ζ,[.s 15,.s 19],Sq20,ζ,Sq20,Sq21,ζ,Sq21,Sq22,ζ,Sq21,Sq23,ζ,Sq21,Sq24,ζ,Sq21,Sq25,ζ,Sq21,Sq26,ζ,[.s 21,.s 26],Sq27,ζ,Sq27,Sq28,ζ,Sq28,Sq29,ζ,Sq28,Sq30,ζ,Sq28,Sq31,ζ,Sq28,Sq32,ζ,Sq28,Sq33,ζ,Sq28,Sq34,ζ,[.s 28,.s 34],Sq35,ζ,Sq35,Sq36,ζ,Sq36,Sq37,ζ,Sq36,Sq38,ζ,Sq36,Sq39,ζ,Sq36,Sq40,ζ,[.s 36,.s 40],Sq41,ζ,Sq41,Sq42,ζ,Sq42,Sq43,ζ,Sq42,Sq44,ζ,Sq42,Sq45,ζ,Sq42,Sq46,ζ,Sq42,Sq47,ζ,Sq47,Sq48,ζ,Sq47,Sq49,ζ,Sq47,Sq50,ζ,Sq47,Sq51,ζ,Sq47,Sq52,ζ,Sq47,Sq53,ζ,Sq47,Sq54,ζ,Sq47,Sq55,ζ,Sq42,Sq56,ζ,[.s 42,.s 56],Sq57,ζ,Sq57,Sq2,ζ,?_⟩⟩,λrR=>⟨Sq3,Sq13,ζ,Sq13,Sq14,ζ,Sq14,Sq15,ζ,aa,λw25=>⟨[.s 15,.s 1],Sq16,ζ,[.s 15,.s 16,.b 1001],Sq17,ζ,[.s 15,.s 4],Sq18,ζ,[.s 15,.s 17,.s 18],Sq19,ζ,⟨tv4,aa⟩,?_,λx26 w27=>⟨[.s 15,.s 19],Sq20,ζ,Sq20,Sq21,ζ,aa,λw28=>⟨[.s 21,.s 1],Sq22,ζ,[.s 21,.s 22],Sq23,ζ,[.s 21,.s 23,.b 1001],Sq24,ζ,[.s 21,.s 3],Sq25,ζ,[.s 21,.s 24,.s 25],Sq26,ζ,[.s 21,.s 26],Sq27,ζ,Sq27,Sq28,ζ,aa,λw29=>⟨[.s 28,.s 1],Sq29,ζ,[.s 28,.s 29],Sq30,ζ,[.s 28,.s 30,.b 1001],Sq31,ζ,[.s 28,.s 3],Sq32,ζ,[.s 28,.s 32],Sq33,ζ,⟨tv2,aa⟩,?_,λx30 w31=>⟨[.s 28,.s 31,.s 33],Sq34,ζ,[.s 28,.s 34],Sq35,ζ,Sq35,Sq36,ζ,aa,λw32=>⟨[.s 36,.s 1],Sq37,ζ,[.s 36,.s 37],Sq38,ζ,[.s 36,.s 38,.b 1001],Sq39,ζ,[.s 36,.s 39],Sq40,ζ,⟨⟨tv6,aa⟩,aa⟩,?_,λx33 w34=>⟨[.s 36,.s 40],Sq41,ζ,Sq41,Sq42,ζ,aa,λw35=>⟨[.s 42,.s 1],Sq43,ζ,[.s 42,.s 43],Sq44,ζ,[.s 42,.s 44,.b 1001],Sq45,ζ,[.s 42,.s 45],Sq46,ζ,⟨⟨tv6,aa⟩,aa⟩,?_,λx36 w37=>⟨[.s 42,.s 46],Sq47,ζ,aa,λw38=>⟨Sq47,Sq48,ζ,Sq47,Sq49,ζ,Sq47,Sq50,ζ,Sq47,Sq51,ζ,Sq47,Sq52,ζ,Sq47,Sq53,ζ,Sq47,Sq54,ζ,Sq47,Sq55,ζ,[.s 42,.s 47,.s 55],Sq56,ζ,[.s 42,.s 56],Sq57,ζ,Sq57,Sq2,ζ,?_⟩,λw39=>⟨[.s 47,.s 1],Sq48,ζ,[.s 47,.s 48],Sq49,ζ,[.s 47,.s 49],Sq50,ζ,[.s 47,.s 50,.b 1001],Sq51,ζ,[.s 47,.s 1],Sq52,ζ,[.s 47,.s 52],Sq53,ζ,[.s 47,.s 53,.b 1001],Sq54,ζ,[.s 47,.s 51,.s 54],Sq55,ζ,[.s 42,.s 47,.s 55],Sq56,ζ,[.s 42,.s 56],Sq57,ζ,Sq57,Sq2,ζ,?_⟩⟩⟩,λw40=>⟨Sq42,Sq43,ζ,Sq42,Sq44,ζ,Sq42,Sq45,ζ,Sq42,Sq46,ζ,Sq42,Sq47,ζ,Sq47,Sq48,ζ,Sq47,Sq49,ζ,Sq47,Sq50,ζ,Sq47,Sq51,ζ,Sq47,Sq52,ζ,Sq47,Sq53,ζ,Sq47,Sq54,ζ,Sq47,Sq55,ζ,Sq42,Sq56,ζ,[.s 42,.s 56],Sq57,ζ,Sq57,Sq2,ζ,?_⟩⟩⟩,λw41=>⟨Sq36,Sq37,ζ,Sq36,Sq38,ζ,Sq36,Sq39,ζ,Sq36,Sq40,ζ,[.s 36,.s 40],Sq41,ζ,Sq41,Sq42,ζ,Sq42,Sq43,ζ,Sq42,Sq44,ζ,Sq42,Sq45,ζ,Sq42,Sq46,ζ,Sq42,Sq47,ζ,Sq47,Sq48,ζ,Sq47,Sq49,ζ,Sq47,Sq50,ζ,Sq47,Sq51,ζ,Sq47,Sq52,ζ,Sq47,Sq53,ζ,Sq47,Sq54,ζ,Sq47,Sq55,ζ,Sq42,Sq56,ζ,[.s 42,.s 56],Sq57,ζ,Sq57,Sq2,ζ,?_⟩⟩⟩,λw42=>⟨Sq28,Sq29,ζ,Sq28,Sq30,ζ,Sq28,Sq31,ζ,Sq28,Sq32,ζ,Sq28,Sq33,ζ,Sq28,Sq34,ζ,[.s 28,.s 34],Sq35,ζ,Sq35,Sq36,ζ,Sq36,Sq37,ζ,Sq36,Sq38,ζ,Sq36,Sq39,ζ,Sq36,Sq40,ζ,[.s 36,.s 40],Sq41,ζ,Sq41,Sq42,ζ,Sq42,Sq43,ζ,Sq42,Sq44,ζ,Sq42,Sq45,ζ,Sq42,Sq46,ζ,Sq42,Sq47,ζ,Sq47,Sq48,ζ,Sq47,Sq49,ζ,Sq47,Sq50,ζ,Sq47,Sq51,ζ,Sq47,Sq52,ζ,Sq47,Sq53,ζ,Sq47,Sq54,ζ,Sq47,Sq55,ζ,Sq42,Sq56,ζ,[.s 42,.s 56],Sq57,ζ,Sq57,Sq2,ζ,?_⟩⟩,λw43=>⟨Sq21,Sq22,ζ,Sq21,Sq23,ζ,Sq21,Sq24,ζ,Sq21,Sq25,ζ,Sq21,Sq26,ζ,[.s 21,.s 26],Sq27,ζ,Sq27,Sq28,ζ,Sq28,Sq29,ζ,Sq28,Sq30,ζ,Sq28,Sq31,ζ,Sq28,Sq32,ζ,Sq28,Sq33,ζ,Sq28,Sq34,ζ,[.s 28,.s 34],Sq35,ζ,Sq35,Sq36,ζ,Sq36,Sq37,ζ,Sq36,Sq38,ζ,Sq36,Sq39,ζ,Sq36,Sq40,ζ,[.s 36,.s 40],Sq41,ζ,Sq41,Sq42,ζ,Sq42,Sq43,ζ,Sq42,Sq44,ζ,Sq42,Sq45,ζ,Sq42,Sq46,ζ,Sq42,Sq47,ζ,Sq47,Sq48,ζ,Sq47,Sq49,ζ,Sq47,Sq50,ζ,Sq47,Sq51,ζ,Sq47,Sq52,ζ,Sq47,Sq53,ζ,Sq47,Sq54,ζ,Sq47,Sq55,ζ,Sq42,Sq56,ζ,[.s 42,.s 56],Sq57,ζ,Sq57,Sq2,ζ,?_⟩⟩⟩,λw44=>⟨Sq15,Sq16,ζ,Sq15,Sq17,ζ,Sq15,Sq18,ζ,Sq15,Sq19,ζ,[.s 15,.s 19],Sq20,ζ,Sq20,Sq21,ζ,Sq21,Sq22,ζ,Sq21,Sq23,ζ,Sq21,Sq24,ζ,Sq21,Sq25,ζ,Sq21,Sq26,ζ,[.s 21,.s 26],Sq27,ζ,Sq27,Sq28,ζ,Sq28,Sq29,ζ,Sq28,Sq30,ζ,Sq28,Sq31,ζ,Sq28,Sq32,ζ,Sq28,Sq33,ζ,Sq28,Sq34,ζ,[.s 28,.s 34],Sq35,ζ,Sq35,Sq36,ζ,Sq36,Sq37,ζ,Sq36,Sq38,ζ,Sq36,Sq39,ζ,Sq36,Sq40,ζ,[.s 36,.s 40],Sq41,ζ,Sq41,Sq42,ζ,Sq42,Sq43,ζ,Sq42,Sq44,ζ,Sq42,Sq45,ζ,Sq42,Sq46,ζ,Sq42,Sq47,ζ,Sq47,Sq48,ζ,Sq47,Sq49,ζ,Sq47,Sq50,ζ,Sq47,Sq51,ζ,Sq47,Sq52,ζ,Sq47,Sq53,ζ,Sq47,Sq54,ζ,Sq47,Sq55,ζ,Sq42,Sq56,ζ,[.s 42,.s 56],Sq57,ζ,Sq57,Sq2,ζ,?_⟩⟩⟩⟩
 all_goals first|refine aw ?_|refine ax ?_|exact a8|(dsimp only [anK,ant,cr,df,gM,iv,cB,cR,bG,cb];omega)|exact a7|skip
 all_goals
  refine⟨[],[],_,_,_,ζ,az,(),aa,?_,?_,ζ⟩
  ·show AV.q _=an3 (n1,n2,n3,n4,n5,n6,n7,n8,n9,cw);unfold an3;refine congrArg AV.q ?_;simp_all [cy]
  ·rfl
def anw (l:List Int):Prop:=(∃a b,l=[a,b])∨∃a b c,l=[a,b,c]
def apK (l:List Int):AV:=.s (.xs 0 1 0 l.length)
def aqb (l:List Int):List AV:=[.rs ab (l.map cj)]
def anD:cn where
 A:=[.s (.vz ag)]
 B:=[]
 pre:=λx b=>anw x
 r:=λx b _=>apK x
 o:=λx b _=>aqb x
 nf:=1
theorem ape:Has Tryz.prog 84 anD:=by
 refine Has.zB zT zF zF (l:=[(130,gn)]) ⟨CR,aa⟩ Tryz.func84 ?_
 rintro (l:List Int) _ (hp:anw l)
 show vc _ _ _ _ (entry [.s (.vz ag l)] []) _
 let g':=(1005,1016)
 rcases (show (∃a b,l=[a,b])∨∃a b c,l=[a,b,c] from hp) with ⟨a,b,rfl⟩ |⟨a,b,c,rfl⟩
 ·refine lW (l:=[(130,gn)]) (ex:=zT) (wr:=zF) (pt:=zF) ⟨CR,aa⟩ [.s 0] (λn:Nat=>match n with |0=>[(.s 3,.s (.v (.slice none 0 0))),(.s 6,.s (.vz ag [a,b])),(.s 7,.int 2),(.s 8,.int 0)] |n+1=>[(.s 3,.s (.xs 1005 1 0 (n+1))),(.s 6,.s (.vz ag [a,b])),(.s 7,.int 2),(.s 8,.int ((n+1:Nat):Int)),(.b 1005,.rs ab (([cj a,cj b]).take (n+1)))]) (λn=>n≤2) (λn=>2-n) 0 [] (ZA7 _) dM ?_
  rintro n (hn:n≤2)
  have h5:n=0∨n=1∨n=2:=by omega
  rcases h5 with rfl |rfl |rfl
  ·refine⟨λw1=>⟨⟨?_,?_⟩,⟨tv2,aa⟩,λx2 w3=>⟨aa,⟨⟨?_,?_⟩,?_,?_⟩,⟨?_,?_⟩,?_⟩⟩,λw4=>?_⟩
   all_goals first|(exfalso;simp only [decide_eq_true_eq,decide_eq_false_iff_not] at *;omega)|refine aw ?_|refine ax ?_|exact a8|(dsimp only [gn,fG];omega)|exact a7|(show (0:Nat)+1≤1048576;omega)|skip
   ·refine⟨(1),[g'],?_,?_,?_⟩
    rotate_right
    ·exact bV
    ·show (1:Nat)≤2;omega
    ·show 2-1<2-0;omega
  ·refine⟨λw1=>⟨⟨?_,?_⟩,⟨tv2,aa⟩,λx2 w3=>⟨aa,⟨⟨?_,?_⟩,?_,?_⟩,⟨?_,?_⟩,?_⟩⟩,λw4=>?_⟩
   all_goals first|(exfalso;simp only [decide_eq_true_eq,decide_eq_false_iff_not] at *;omega)|refine aw ?_|refine ax ?_|exact a8|(dsimp only [gn,fG];omega)|exact a7|(show (1:Nat)+1≤1048576;omega)|skip
   ·refine⟨(2),[g'],?_,?_,?_⟩
    rotate_right
    ·exact bV
    ·show (2:Nat)≤2;omega
    ·show 2-2<2-1;omega
  ·refine⟨λw1=>⟨⟨?_,?_⟩,⟨tv2,aa⟩,λx2 w3=>⟨aa,⟨⟨?_,?_⟩,?_,?_⟩,⟨?_,?_⟩,?_⟩⟩,λw4=>?_⟩
   all_goals first|(exfalso;simp only [decide_eq_true_eq,decide_eq_false_iff_not] at *;omega)|refine aw ?_|refine ax ?_|exact a8|(dsimp only [gn,fG];omega)|exact a7|skip
   refine⟨[1005],[],_,_,_,ζ,cf,(),aa,ζ,ζ,ζ⟩
 ·refine lW (l:=[(130,gn)]) (ex:=zT) (wr:=zF) (pt:=zF) ⟨CR,aa⟩ [.s 0] (λn:Nat=>match n with |0=>[(.s 3,.s (.v (.slice none 0 0))),(.s 6,.s (.vz ag [a,b,c])),(.s 7,.int 3),(.s 8,.int 0)] |n+1=>[(.s 3,.s (.xs 1005 1 0 (n+1))),(.s 6,.s (.vz ag [a,b,c])),(.s 7,.int 3),(.s 8,.int ((n+1:Nat):Int)),(.b 1005,.rs ab (([cj a,cj b,cj c]).take (n+1)))]) (λn=>n≤3) (λn=>3-n) 0 [] (ZA7 _) dM ?_
  rintro n (hn:n≤3)
  have h5:n=0∨n=1∨n=2∨n=3:=by omega
  rcases h5 with rfl |rfl |rfl |rfl
  ·refine⟨λw1=>⟨⟨?_,?_⟩,⟨tv2,aa⟩,λx2 w3=>⟨aa,⟨⟨?_,?_⟩,?_,?_⟩,⟨?_,?_⟩,?_⟩⟩,λw4=>?_⟩
   all_goals first|(exfalso;simp only [decide_eq_true_eq,decide_eq_false_iff_not] at *;omega)|refine aw ?_|refine ax ?_|exact a8|(dsimp only [gn,fG];omega)|exact a7|(show (0:Nat)+1≤1048576;omega)|skip
   ·refine⟨(1),[g'],?_,?_,?_⟩
    rotate_right
    ·exact bV
    ·show (1:Nat)≤3;omega
    ·show 3-1<3-0;omega
  ·refine⟨λw1=>⟨⟨?_,?_⟩,⟨tv2,aa⟩,λx2 w3=>⟨aa,⟨⟨?_,?_⟩,?_,?_⟩,⟨?_,?_⟩,?_⟩⟩,λw4=>?_⟩
   all_goals first|(exfalso;simp only [decide_eq_true_eq,decide_eq_false_iff_not] at *;omega)|refine aw ?_|refine ax ?_|exact a8|(dsimp only [gn,fG];omega)|exact a7|(show (1:Nat)+1≤1048576;omega)|skip
   ·refine⟨(2),[g'],?_,?_,?_⟩
    rotate_right
    ·exact bV
    ·show (2:Nat)≤3;omega
    ·show 3-2<3-1;omega
  ·refine⟨λw1=>⟨⟨?_,?_⟩,⟨tv2,aa⟩,λx2 w3=>⟨aa,⟨⟨?_,?_⟩,?_,?_⟩,⟨?_,?_⟩,?_⟩⟩,λw4=>?_⟩
   all_goals first|(exfalso;simp only [decide_eq_true_eq,decide_eq_false_iff_not] at *;omega)|refine aw ?_|refine ax ?_|exact a8|(dsimp only [gn,fG];omega)|exact a7|(show (2:Nat)+1≤1048576;omega)|skip
   ·refine⟨(3),[g'],?_,?_,?_⟩
    rotate_right
    ·exact bV
    ·show (3:Nat)≤3;omega
    ·show 3-3<3-2;omega
  ·refine⟨λw1=>⟨⟨?_,?_⟩,⟨tv2,aa⟩,λx2 w3=>⟨aa,⟨⟨?_,?_⟩,?_,?_⟩,⟨?_,?_⟩,?_⟩⟩,λw4=>?_⟩
   all_goals first|(exfalso;simp only [decide_eq_true_eq,decide_eq_false_iff_not] at *;omega)|refine aw ?_|refine ax ?_|exact a8|(dsimp only [gn,fG];omega)|exact a7|skip
   refine⟨[1005],[],_,_,_,ζ,cf,(),aa,ζ,ζ,ζ⟩
def ans (t:bf):Prop:=True
def aoT (t:bf):AV:=.s (.xs 0 1 0 3)
def ao7 (t:bf):List AV:=[.rs ab [bc (t.1,t.2.1,t.2.2.1,t.2.2.2.1,t.2.2.2.2.1),cj t.2.2.2.2.2.1,cj t.2.2.2.2.2.2]]
def anJ:cn where
 A:=[.a [.int,.int,.int,.int,.int,.int,.int]]
 B:=[]
 pre:=λx b=>ans x
 r:=λx b _=>aoT x
 o:=λx b _=>ao7 x
 nf:=1
theorem apr:Has Tryz.prog 85 anJ:=by
 refine Has.zB zT zF zF (l:=[(131,eR),(84,anD)]) ⟨wT,ape,aa⟩ Tryz.func85 ?_
 rintro⟨(t1:Int),(t2:Int),(t3:Int),(t4:Int),(t5:Int),(t6:Int),(t7:Int)⟩ _ (hp:ans (t1,t2,t3,t4,t5,t6,t7))
 show vc _ _ _ _ (entry [.a [.int t1,.int t2,.int t3,.int t4,.int t5,.int t6,.int t7]] []) _
 refine⟨Sq1,Sq3,ζ,[.s 3,.b 1001],Sq4,ζ,Sq4,Sq5,ζ,⟨⟨tv6,aa⟩,aa⟩,?_,λx1 w2=>⟨[.s 5,.b 1006],[.s 6,.b 1006],ζ,aa,Sq1,Sq7,ζ,[.s 7,.b 1001],Sq8,ζ,Sq1,Sq9,ζ,[.s 9,.b 1001],Sq10,ζ,[.s 8,.s 10,.b 1011],[.s 11,.b 1011],ζ,aa,[.s 11,.b 1011,.b 130000],[.s 12,.b 130000],ζ,⟨⟨⟨?_,?_⟩,aa⟩,?_⟩,?_,λx3 w4=>⟨[.s 6,.s 12,.b 1006,.b 130000,.b 1013],[.s 13,.b 1013,.b 1006],ζ,⟨⟨?_,?_⟩,?_,?_⟩,Sq13,Sq2,ζ,?_⟩⟩⟩
 all_goals first|refine aw ?_|refine ax ?_|exact a8|(dsimp only [eR,eG,anD,anw];omega)|exact a7|exact .inl ⟨_,_,rfl⟩|(show 1+2≤1048576;decide)|skip
 ·refine⟨[1013],[],_,_,_,ζ,cf,(),aa,ζ,ζ,ζ⟩
end GL
namespace GL
open Go.RowKit
theorem aoR {T e:TypeId}{B b:Nat}{p:Value}{bs:List Value}{W W':World}(h:Lib.BuilderAtF T e B b p bs W) (hb:Below W.heap.size W W'):Lib.BuilderAtF T e B b p bs W':=by
 have bU:=h.lt
 obtain⟨hB,v,hv,oa,fA⟩:=h
 exact⟨hB,v,(hb.block b bU).trans hv,oa.kept (row:=none) ⟨hb.os,hb.tape,hb.output,hb.size,λk hk _=>hb.block k hk⟩ (Classical.em _),fA⟩
theorem aqJ {T e:TypeId}{B b:Nat}{bs:List Value}{W W':World}(h:Lib.IsBuilderF T e B b bs W) (hb:Below W.heap.size W W'):Lib.IsBuilderF T e B b bs W':=
 h.elim (λx=>.inl (aoR x hb)) (λx=>.inr (aoR x hb))
def arb:Go.Shelf.Ren:=⟨λn=>match n with |167=>127 |170=>128 |n=>Tryz.D1.f n,Tryz.D1.t,Tryz.D1.g⟩
theorem asg:Go.Proofs.Lays.n167 Tryz.prog arb:= { Tryz.ZP with
 f167:=Tryz.func127.trans (congrArg some (by kernel_rfl))
 f240:=Tryz.ZP.f240.trans (congrArg some (by kernel_rfl))
 f276:=Tryz.ZP.f276.trans (congrArg some (by kernel_rfl))
 t5:=Tryz.underlying5
 a5:=Tryz.isAgg5
 z5:=Tryz.sizeOf5
 v5:=Tryz.zeroValue5 }
theorem ar4:Go.Proofs.Lays.n170 Tryz.prog arb:= { Tryz.ZP with
 f170:=Tryz.func128.trans (congrArg some (by kernel_rfl)) }
theorem asf:Builder.Extra Tryz.prog arb:= { Tryz.ry with }
def fpR:List ByteArray→List UInt8→List UInt8×Bool
 |[],out=>(out,true)
 |x::l,out=>if ((out++lb (bX x.size)++[58]++lb x).length:Int)>2048 then ([],false) else fpR l (out++lb (bX x.size)++[58]++lb x)
theorem arM:∀(l:List ByteArray) (out:ByteArray),fpR l (lb out)=(lb (dB l out).1,(dB l out).2)
 |[],_=>rfl
 |x::l,out=>by
  have dj:((out++bX x.size++⟨#[58]⟩++x).size:Int)=((lb out++lb (bX x.size)++[58]++lb x).length:Int):=by
   rw [fo];simp only [wL]
  have hlb:lb (out++bX x.size++⟨#[58]⟩++x)=lb out++lb (bX x.size)++[58]++lb x:=by simp only [wL]
  have FL:x.size≤(out++bX x.size++⟨#[58]⟩++x).size:=by simp only [ZB2];omega
  unfold fpR
  cases h2:decide (((out++bX x.size++⟨#[58]⟩++x).size:Int)>2048) with
  |true=>rw [MZ h2,if_pos (by rw [←dj];exact aJ h2)]
  |false=>
   have h3:=aA h2
   rw [MY (decide_eq_false (by omega)) h2,if_neg (by rw [←dj];exact h3),←hlb]
   exact arM l _
theorem arl (W:World) (v:Value) (L:List ByteArray) (dj:∀x∈L,x.size≤1000000) (hL:(L=[]∧∃p cap,v= .slice p 0 cap)∨∃b o cap,v= .slice (some ⟨b,o,none⟩) L.length cap∧b<W.heap.size∧∀k (h:k<L.length),W.cell? ⟨b,o+k,none⟩=some (.string L[k])) (h60:L.length≤60)
   (hIT:∀(n:Nat) w,n≤1000000→Below W.heap.size W w→Calls Tryz.prog 126 #[.int .i64 n] w λe w'=>e= .returned (.string (bX n))∧Below w.heap.size w w'):
   Calls Tryz.prog 83 #[v] W λe w'=>e= .returned (.tuple #[.string ⟨(fpR L []).1.toArray⟩,.bool (fpR L []).2])∧Below W.heap.size W w':=by
 have hbw:Lib.IsBuilderF 147 5 W.heap.size W.heap.size (Lib.byteCells []) (W.alloc (.cells #[.pointer none,.slice none 0 0] 147)):=Lib.IsBuilderF.of (Lib.fresh_isBuilder 147 5 W)
 have ams:Below W.heap.size W (W.alloc (.cells #[.pointer none,.slice none 0 0] 147)):=(Below.refl _ _).alloc (ZB5 _) _
 rcases hL with ⟨hL,p,cap,rfl⟩ |⟨amU,amV,cap,rfl,hvb,agU⟩
 ·subst hL
  go_enter Tryz.func83,Tryz.ntmps83
  go_wp2
  refine wp_loop_rounds 1 ?_
  rw [rounds_succ]
  go_wp2_with (go_at_call 129;refine (Any.Builder_String_any_f (ρ:=Tryz.D1) { Tryz.ZP with } Tryz.ry W.heap.size W.heap.size [] _ hbw ams.size).mono ?_)
  rintro e w4 ⟨rfl,_,b4⟩
  go_wp2
  go_ret2
  exact⟨rfl,ams.trans b4⟩
 ·go_enter Tryz.func83,Tryz.ntmps83
  go_wp2
  go_loopw [12] (λi wr=>∃(k:Nat) (out:List UInt8),k≤L.length∧i= .int .i64 k∧Lib.IsBuilderF 147 5 W.heap.size W.heap.size (Lib.byteCells out) wr∧Below W.heap.size W wr∧out.length≤2048∧fpR (L.drop k) out=fpR L []) (λi _=>L.length-(intOf i).toNat)
  case atStart=>exact⟨0,[],ZA7 _,rfl,hbw,ams,ZA7 _,rfl⟩
  case round=>
   obtain⟨k,out,hk,rfl,hb,hnx,ob,hg⟩:=hrel
   by_cases bU:k<L.length
   ·have d0:=(hnx.cell (p:=⟨amU,amV+k,none⟩) hvb).trans (agU k bU)
    have hxs:L[k].size≤1000000:=dj _ (List.getElem_mem bU)
    rw [List.drop_eq_getElem_cons bU,fpR] at hg
    generalize L[k]=x at *
    go_wp2_with (go_at_call 126;refine (hIT x.size _ hxs hnx).mono ?_)
    rintro e w3 ⟨rfl,b3⟩
    have hds:=db (n:=(x.size:Int)) (by omega)
    have n3:Below W.heap.size W w3:=hnx.trans (b3.mono hnx.size)
    go_wp2_with (go_at_call 125;refine (Any.Builder_WriteString_f (ρ:=Tryz.D1) { Tryz.ZP with } Tryz.ry W.heap.size W.heap.size (Lib.byteCells out) (bX x.size) _ (aqJ hb b3) (by rw [Lib.byteCells_length];omega) n3.size).mono ?_)
    rintro e w4 ⟨rfl,hb4,b4⟩
    have n4:Below W.heap.size W w4:=n3.trans b4
    have hb4:Lib.IsBuilderF 147 5 W.heap.size W.heap.size (Lib.byteCells (out++lb (bX x.size))) w4:=.inr (by have h:=hb4;rw [Lib.byteCells_append];exact h)
    go_wp2_with (go_at_call 127;refine (Any.Builder_WriteByte_k (ρ:=arb) asg asf W.heap.size W.heap.size (Lib.byteCells (out++lb (bX x.size))) 58 _ hb4 (by rw [Lib.byteCells_length,ZA0,←fo];omega) n4.size).mono ?_)
    rintro e w5 ⟨rfl,hb5,b5,_⟩
    have n5:Below W.heap.size W w5:=n4.trans b5
    have hb5:Lib.IsBuilderF 147 5 W.heap.size W.heap.size (Lib.byteCells (out++lb (bX x.size)++[58])) w5:=.inr (by have h:=hb5;rw [Lib.byteCells_append];exact h)
    go_wp2_with (go_at_call 125;refine (Any.Builder_WriteString_f (ρ:=Tryz.D1) { Tryz.ZP with } Tryz.ry W.heap.size W.heap.size (Lib.byteCells (out++lb (bX x.size)++[58])) x _ hb5 (by rw [Lib.byteCells_length];simp only [ZA0,←fo,ZA1,ZA4];omega) n5.size).mono ?_)
    rintro e w6 ⟨rfl,hb6,b6⟩
    have n6:Below W.heap.size W w6:=n5.trans b6
    have hb6:Lib.IsBuilderF 147 5 W.heap.size W.heap.size (Lib.byteCells (out++lb (bX x.size)++[58]++lb x)) w6:=.inr (by have h:=hb6;rw [Lib.byteCells_append];exact h)
    go_wp2_with (go_at_call 128;refine (Any.Builder_Len_f (ρ:=arb) ar4 W.heap.size W.heap.size _ _ hb6).mono ?_)
    rintro e w7 ⟨rfl,rfl⟩
    have hln:((out++lb (bX x.size)++[58]++lb x).length:Int)=out.length+((bX x.size).size+(x.size+1)):=by simp only [ZA0,←fo,ZA1,ZA4];omega
    rw [Lib.byteCells_length]
    by_cases ajA:((out++lb (bX x.size)++[58]++lb x).length:Int)>2048
    ·rw [if_pos ajA] at hg
     go_wp2
     go_ret2
     exact⟨by rw [←hg];rfl,n6⟩
    ·rw [if_neg ajA] at hg
     go_wp2
     refine⟨⟨k+1,_,bU,ζ,hb6,n6,by omega,hg⟩,?_⟩
     show L.length-((k:Int)+1).toNat<L.length-((k:Int)).toNat
     omega
   ·have hkk:k=L.length:=by omega
    subst hkk
    rw [ZB3 (ZB5 _),fpR] at hg
    go_wp2_with (go_at_call 129;refine (Any.Builder_String_any_f (ρ:=Tryz.D1) { Tryz.ZP with } Tryz.ry W.heap.size W.heap.size out _ hb hnx.size).mono ?_)
    rintro e w4 ⟨rfl,_,b4⟩
    go_wp2
    go_ret2
    exact⟨by rw [←hg];rfl,hnx.trans b4⟩
def aoz:cn:=X3 [.s (.vz ab)] (λl=>l.length≤60∧∀x∈l,x.size≤1000000) λl=>.t [.s (.str (cE l).1),.s (.q (cE l).2)]
theorem arz (x:ByteArray):(⟨(lb x).toArray⟩:ByteArray)=x:=vx rfl
theorem apR:Has Tryz.prog 83 aoz:=by
 refine Has.lib ⟨_,Tryz.func83,by rfl,by decide⟩ (λx=>⟨rfl,rfl⟩) λ(l:List ByteArray) (hp:l.length≤60∧∀x∈l,x.size≤1000000) W T β vs hT hN c6=>?_
 obtain⟨v,rfl⟩:∃v,vs=[v]:=by
  match vs,c6 with
  |[v],_=>exact⟨v,rfl⟩
  |[],h=>exact h.elim
  |_::_::_,h=>exact h.2.elim
 have hv:(SV.vz ab l).rel T β v:=c6.1
 have hIT:∀(n:Nat) w,n≤1000000→Below W.heap.size W w→Calls Tryz.prog 126 #[.int .i64 n] w λe w'=>e= .returned (.string (bX n))∧Below w.heap.size w w':=λn w hn hb=>by
  refine ((ahH.1 (n:Int) () ⟨by show (-9223372036854775808:Int)≤(n:Int);omega,by show (n:Int)≤(9223372036854775807:Int);omega⟩).lib (β:=β) (vs:=[.int .i64 n]) rfl hT hN ⟨rfl,trivial⟩ hb).mono ?_
  rintro e w' ⟨v,r,os,T',β',rfl,⟨z,_,rfl,_⟩,hv,hB,_⟩
  have hv:v= .string (ad4 n):=hv
  subst hv
  exact⟨by rw [abP (by omega)],hB⟩
 refine (arl W v l hp.2 ?_ hp.1 hIT).mono ?_
 ·rcases hv with ⟨rfl,p,cap,rfl⟩ |⟨b,o,cap,cs,rfl,hlc,dF,hw⟩
  ·exact .inl ⟨rfl,p,cap,rfl⟩
  ·obtain⟨te,fr,hc⟩:=FA hT dF
   refine .inr ⟨b,o,cap,rfl,(ZF1.1 hc).1,λk hk=>?_⟩
   rw [rr hc]
   refine hw k _ ?_
   rw [I7,List.getElem?_map,ZB1 hk];rfl
 ·rintro e w' ⟨rfl,hB⟩
  have e1:cE l=dB l ⟨#[]⟩:=gE (decide_eq_true (by have:=hp.1;omega))
  have e2:fpR l []=(lb (cE l).1,(cE l).2):=by rw [e1];exact arM l ⟨#[]⟩
  rw [e2,arz]
  exact⟨_,rfl,hB,_,rfl,rfl,rfl,trivial⟩
