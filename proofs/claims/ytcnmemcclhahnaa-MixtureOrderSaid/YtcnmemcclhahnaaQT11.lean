-- Written by a program of this session, out of the seat's translation; checked by the kernel alone.
import Derived.Test.YtcnmemcclhahnaaQT0
import Derived.Test.YtcnmemcclhahnaaQT7
import Derived.Test.YtcnmemcclhahnaaQT9
import Derived.Test.YtcnmemcclhahnaaQT10
namespace Go.Proofs.Ytcnmemcclhahnaa.QT
open Go.RowKit Go.Proofs.YtcnmemcclhahnaaW.PrintWords Go.Proofs.YtcnmemcclhahnaaW.PrintLast Go.Proofs.YtcnmemcclhahnaaW.PrintMore
attribute [local go_sem] max2_int min2_int max_two min_two max_three min_three max_four min_four   -- for this text's walks alone
set_option linter.unusedVariables false
set_option linter.unusedSimpArgs false

/-! ### soundservicelaw23_sane: function 8 -/
def soundservicelaw23_sane.f (k : Nat)  : Option (Bool):=(soundserviceref08_New.f 8388607 100).bind fun bt281=>((soundservicelaw23_one.f k 6000000).bind fun bt286=>((soundservicelaw23_one.f k 6000000).bind fun bt299=>((mixture_Sum.f k 1 1 (([(⟨(⟨bt286.1,bt286.2.1⟩ : S43),(⟨bt286.2.2.1,bt286.2.2.2.1,bt286.2.2.2.2.1⟩ : S50),(⟨bt286.2.2.2.2.2.1,bt286.2.2.2.2.2.2.1,bt286.2.2.2.2.2.2.2.1,bt286.2.2.2.2.2.2.2.2⟩ : S52)⟩ : S54),(⟨(⟨bt299.1,bt299.2.1⟩ : S43),(⟨bt299.2.2.1,bt299.2.2.2.1,bt299.2.2.2.2.1⟩ : S50),(⟨bt299.2.2.2.2.2.1,bt299.2.2.2.2.2.2.1,bt299.2.2.2.2.2.2.2.1,bt299.2.2.2.2.2.2.2.2⟩ : S52)⟩ : S54)] : List (S54)))).bind fun bt315=>((soundservicelaw23_one.f k 6000000).bind fun bt319=>((soundservicelaw23_one.f k 6000000).bind fun bt332=>((mixture_Mix.f k 1 1 (([(⟨(⟨bt319.1,bt319.2.1⟩ : S43),(⟨bt319.2.2.1,bt319.2.2.2.1,bt319.2.2.2.2.1⟩ : S50),(⟨bt319.2.2.2.2.2.1,bt319.2.2.2.2.2.2.1,bt319.2.2.2.2.2.2.2.1,bt319.2.2.2.2.2.2.2.2⟩ : S52)⟩ : S54),(⟨(⟨bt332.1,bt332.2.1⟩ : S43),(⟨bt332.2.2.1,bt332.2.2.2.1,bt332.2.2.2.2.1⟩ : S50),(⟨bt332.2.2.2.2.2.1,bt332.2.2.2.2.2.2.1,bt332.2.2.2.2.2.2.2.1,bt332.2.2.2.2.2.2.2.2⟩ : S52)⟩ : S54)] : List (S54))) bt281.1 bt281.2.1 bt281.2.2.1).bind fun bt348=>(if bt315.2=0 then (if bt348.2.2.2.2.2=0 then (if (bt315.1.length : Int)=1 then (if 0<(bt315.1.length : Int) then (if (rd bt315.1 0)=12000000 then (if (bt348.2.1.length : Int)=1 then (if 0<(bt348.2.1.length : Int) then (if (rd bt348.2.1 0)=8388427 then (some (bt348.2.2.2.2.1 == 45812)) else (some false)) else (none)) else (some false)) else (some false)) else (none)) else (some false)) else (some false)) else (some false))))))))
theorem soundservicelaw23_sane.mono : ∀ k,LeO (soundservicelaw23_sane.f k ) (soundservicelaw23_sane.f (k+1) ):=by
 intro  k
 unfold soundservicelaw23_sane.f
 repeat' first
   | (with_reducible exact mixture_Mix.mono _ _ _ _ _ _ _)
   | (with_reducible exact mixture_Sum.mono _ _ _ _)
   | (with_reducible exact soundservicelaw23_one.mono _ _)
   | (with_reducible exact LeO.refl _)
   | (with_reducible exact LeO.none _)
   | (with_reducible refine LeO.ite ?_ ?_)
   | (with_reducible refine LeO.bind ?_ (fun _=>?_))
   | exact mixture_Mix.mono _ _ _ _ _ _ _
   | exact mixture_Sum.mono _ _ _ _
   | exact soundservicelaw23_one.mono _ _
   | exact LeO.none _
   | refine LeO.ite ?_ ?_
   | refine LeO.bind ?_ (fun _=>?_)
def soundservicelaw23_sane.T3 : Bool×List (List Nat×List Nat):=(true,[([],[]),([0],[]),([0,1],[0,1]),([],[]),([2,3,1],[2,3]),([4],[4]),([5],[5]),([5],[5]),([5],[5]),([],[]),([],[]),([9,6,4,0,1,2,3,4,5,6,9,10],[6,9]),([10,7,11,0,1,2,3,4,5,6,7,9,10,11],[7,10]),([8,12,0,1,2,3,4,5,6,7,8,9,10,11,12],[8])])
def soundservicelaw23_sane.B3 : List Nat:=[0,1,3,0,15,31,63,63,63,0,0,1663,3839,8191]
theorem soundservicelaw23_sane.tab3 : rtab .any (opsOf Try.f8 3)=soundservicelaw23_sane.T3:=by kernel_rfl
theorem soundservicelaw23_sane.bits3 : waitsOk soundservicelaw23_sane.T3.2 soundservicelaw23_sane.B3=true:=by kernel_rfl
set_option maxHeartbeats 8000000 in
set_option maxRecDepth 100000 in
theorem soundservicelaw23_sane.calls (k : Nat)  (r : Bool) (w : World) (hr_ : r=true) (h : soundservicelaw23_sane.f k  = some r) :
  Calls Try.prog 8 #[] w fun e w'=>e = .returned (.bool r)∧Below w.heap.size w w':=by
 have hu24:=Try.underlying24
 have hu43:=Try.underlying43
 have HR_:=Aside0.mk hr_
 clear hr_
 have HB:=Aside0.mk (Below.refl w.heap.size w)
 have H : ((soundserviceref08_New.f 8388607 100).bind fun bt281=>((soundservicelaw23_one.f k 6000000).bind fun bt286=>((soundservicelaw23_one.f k 6000000).bind fun bt299=>((mixture_Sum.f k 1 1 (([(⟨(⟨bt286.1,bt286.2.1⟩ : S43),(⟨bt286.2.2.1,bt286.2.2.2.1,bt286.2.2.2.2.1⟩ : S50),(⟨bt286.2.2.2.2.2.1,bt286.2.2.2.2.2.2.1,bt286.2.2.2.2.2.2.2.1,bt286.2.2.2.2.2.2.2.2⟩ : S52)⟩ : S54),(⟨(⟨bt299.1,bt299.2.1⟩ : S43),(⟨bt299.2.2.1,bt299.2.2.2.1,bt299.2.2.2.2.1⟩ : S50),(⟨bt299.2.2.2.2.2.1,bt299.2.2.2.2.2.2.1,bt299.2.2.2.2.2.2.2.1,bt299.2.2.2.2.2.2.2.2⟩ : S52)⟩ : S54)] : List (S54)))).bind fun bt315=>((soundservicelaw23_one.f k 6000000).bind fun bt319=>((soundservicelaw23_one.f k 6000000).bind fun bt332=>((mixture_Mix.f k 1 1 (([(⟨(⟨bt319.1,bt319.2.1⟩ : S43),(⟨bt319.2.2.1,bt319.2.2.2.1,bt319.2.2.2.2.1⟩ : S50),(⟨bt319.2.2.2.2.2.1,bt319.2.2.2.2.2.2.1,bt319.2.2.2.2.2.2.2.1,bt319.2.2.2.2.2.2.2.2⟩ : S52)⟩ : S54),(⟨(⟨bt332.1,bt332.2.1⟩ : S43),(⟨bt332.2.2.1,bt332.2.2.2.1,bt332.2.2.2.2.1⟩ : S50),(⟨bt332.2.2.2.2.2.1,bt332.2.2.2.2.2.2.1,bt332.2.2.2.2.2.2.2.1,bt332.2.2.2.2.2.2.2.2⟩ : S52)⟩ : S54)] : List (S54))) bt281.1 bt281.2.1 bt281.2.2.1).bind fun bt348=>(if bt315.2=0 then (if bt348.2.2.2.2.2=0 then (if (bt315.1.length : Int)=1 then (if 0<(bt315.1.length : Int) then (if (rd bt315.1 0)=12000000 then (if (bt348.2.1.length : Int)=1 then (if 0<(bt348.2.1.length : Int) then (if (rd bt348.2.1 0)=8388427 then (some (bt348.2.2.2.2.1 == 45812)) else (some false)) else (none)) else (some false)) else (some false)) else (none)) else (some false)) else (some false)) else (some false)))))))))=some r:=h
 clear h
 replace H:=Option.bind_eq_some_iff.mp H
 obtain ⟨⟨t281,t282,t283,t284⟩,A10,H⟩:=H
 replace H : ((soundservicelaw23_one.f k 6000000).bind fun bt286=>((soundservicelaw23_one.f k 6000000).bind fun bt299=>((mixture_Sum.f k 1 1 (([(⟨(⟨bt286.1,bt286.2.1⟩ : S43),(⟨bt286.2.2.1,bt286.2.2.2.1,bt286.2.2.2.2.1⟩ : S50),(⟨bt286.2.2.2.2.2.1,bt286.2.2.2.2.2.2.1,bt286.2.2.2.2.2.2.2.1,bt286.2.2.2.2.2.2.2.2⟩ : S52)⟩ : S54),(⟨(⟨bt299.1,bt299.2.1⟩ : S43),(⟨bt299.2.2.1,bt299.2.2.2.1,bt299.2.2.2.2.1⟩ : S50),(⟨bt299.2.2.2.2.2.1,bt299.2.2.2.2.2.2.1,bt299.2.2.2.2.2.2.2.1,bt299.2.2.2.2.2.2.2.2⟩ : S52)⟩ : S54)] : List (S54)))).bind fun bt315=>((soundservicelaw23_one.f k 6000000).bind fun bt319=>((soundservicelaw23_one.f k 6000000).bind fun bt332=>((mixture_Mix.f k 1 1 (([(⟨(⟨bt319.1,bt319.2.1⟩ : S43),(⟨bt319.2.2.1,bt319.2.2.2.1,bt319.2.2.2.2.1⟩ : S50),(⟨bt319.2.2.2.2.2.1,bt319.2.2.2.2.2.2.1,bt319.2.2.2.2.2.2.2.1,bt319.2.2.2.2.2.2.2.2⟩ : S52)⟩ : S54),(⟨(⟨bt332.1,bt332.2.1⟩ : S43),(⟨bt332.2.2.1,bt332.2.2.2.1,bt332.2.2.2.2.1⟩ : S50),(⟨bt332.2.2.2.2.2.1,bt332.2.2.2.2.2.2.1,bt332.2.2.2.2.2.2.2.1,bt332.2.2.2.2.2.2.2.2⟩ : S52)⟩ : S54)] : List (S54))) t281 t282 t283).bind fun bt348=>(if bt315.2=0 then (if bt348.2.2.2.2.2=0 then (if (bt315.1.length : Int)=1 then (if 0<(bt315.1.length : Int) then (if (rd bt315.1 0)=12000000 then (if (bt348.2.1.length : Int)=1 then (if 0<(bt348.2.1.length : Int) then (if (rd bt348.2.1 0)=8388427 then (some (bt348.2.2.2.2.1 == 45812)) else (some false)) else (none)) else (some false)) else (some false)) else (none)) else (some false)) else (some false)) else (some false))))))))=some r:=H
 have A1:=Aside0.mk A10
 clear A10
 replace H:=Option.bind_eq_some_iff.mp H
 obtain ⟨⟨t286,t287,t290,t291,t292,t295,t296,t297,t298⟩,A20,H⟩:=H
 replace H : ((soundservicelaw23_one.f k 6000000).bind fun bt299=>((mixture_Sum.f k 1 1 (([(⟨(⟨t286,t287⟩ : S43),(⟨t290,t291,t292⟩ : S50),(⟨t295,t296,t297,t298⟩ : S52)⟩ : S54),(⟨(⟨bt299.1,bt299.2.1⟩ : S43),(⟨bt299.2.2.1,bt299.2.2.2.1,bt299.2.2.2.2.1⟩ : S50),(⟨bt299.2.2.2.2.2.1,bt299.2.2.2.2.2.2.1,bt299.2.2.2.2.2.2.2.1,bt299.2.2.2.2.2.2.2.2⟩ : S52)⟩ : S54)] : List (S54)))).bind fun bt315=>((soundservicelaw23_one.f k 6000000).bind fun bt319=>((soundservicelaw23_one.f k 6000000).bind fun bt332=>((mixture_Mix.f k 1 1 (([(⟨(⟨bt319.1,bt319.2.1⟩ : S43),(⟨bt319.2.2.1,bt319.2.2.2.1,bt319.2.2.2.2.1⟩ : S50),(⟨bt319.2.2.2.2.2.1,bt319.2.2.2.2.2.2.1,bt319.2.2.2.2.2.2.2.1,bt319.2.2.2.2.2.2.2.2⟩ : S52)⟩ : S54),(⟨(⟨bt332.1,bt332.2.1⟩ : S43),(⟨bt332.2.2.1,bt332.2.2.2.1,bt332.2.2.2.2.1⟩ : S50),(⟨bt332.2.2.2.2.2.1,bt332.2.2.2.2.2.2.1,bt332.2.2.2.2.2.2.2.1,bt332.2.2.2.2.2.2.2.2⟩ : S52)⟩ : S54)] : List (S54))) t281 t282 t283).bind fun bt348=>(if bt315.2=0 then (if bt348.2.2.2.2.2=0 then (if (bt315.1.length : Int)=1 then (if 0<(bt315.1.length : Int) then (if (rd bt315.1 0)=12000000 then (if (bt348.2.1.length : Int)=1 then (if 0<(bt348.2.1.length : Int) then (if (rd bt348.2.1 0)=8388427 then (some (bt348.2.2.2.2.1 == 45812)) else (some false)) else (none)) else (some false)) else (some false)) else (none)) else (some false)) else (some false)) else (some false)))))))=some r:=H
 have A2:=Aside0.mk A20
 clear A20
 replace H:=Option.bind_eq_some_iff.mp H
 obtain ⟨⟨t299,t300,t303,t304,t305,t308,t309,t310,t311⟩,A30,H⟩:=H
 replace H : ((mixture_Sum.f k 1 1 (([(⟨(⟨t286,t287⟩ : S43),(⟨t290,t291,t292⟩ : S50),(⟨t295,t296,t297,t298⟩ : S52)⟩ : S54),(⟨(⟨t299,t300⟩ : S43),(⟨t303,t304,t305⟩ : S50),(⟨t308,t309,t310,t311⟩ : S52)⟩ : S54)] : List (S54)))).bind fun bt315=>((soundservicelaw23_one.f k 6000000).bind fun bt319=>((soundservicelaw23_one.f k 6000000).bind fun bt332=>((mixture_Mix.f k 1 1 (([(⟨(⟨bt319.1,bt319.2.1⟩ : S43),(⟨bt319.2.2.1,bt319.2.2.2.1,bt319.2.2.2.2.1⟩ : S50),(⟨bt319.2.2.2.2.2.1,bt319.2.2.2.2.2.2.1,bt319.2.2.2.2.2.2.2.1,bt319.2.2.2.2.2.2.2.2⟩ : S52)⟩ : S54),(⟨(⟨bt332.1,bt332.2.1⟩ : S43),(⟨bt332.2.2.1,bt332.2.2.2.1,bt332.2.2.2.2.1⟩ : S50),(⟨bt332.2.2.2.2.2.1,bt332.2.2.2.2.2.2.1,bt332.2.2.2.2.2.2.2.1,bt332.2.2.2.2.2.2.2.2⟩ : S52)⟩ : S54)] : List (S54))) t281 t282 t283).bind fun bt348=>(if bt315.2=0 then (if bt348.2.2.2.2.2=0 then (if (bt315.1.length : Int)=1 then (if 0<(bt315.1.length : Int) then (if (rd bt315.1 0)=12000000 then (if (bt348.2.1.length : Int)=1 then (if 0<(bt348.2.1.length : Int) then (if (rd bt348.2.1 0)=8388427 then (some (bt348.2.2.2.2.1 == 45812)) else (some false)) else (none)) else (some false)) else (some false)) else (none)) else (some false)) else (some false)) else (some false))))))=some r:=H
 have A3:=Aside0.mk A30
 clear A30
 obtain ⟨y312,hy312⟩ : ∃ y_ : List (S54),y_=(([(⟨(⟨t286,t287⟩ : S43),(⟨t290,t291,t292⟩ : S50),(⟨t295,t296,t297,t298⟩ : S52)⟩ : S54),(⟨(⟨t299,t300⟩ : S43),(⟨t303,t304,t305⟩ : S50),(⟨t308,t309,t310,t311⟩ : S52)⟩ : S54)] : List (S54))):=⟨_,rfl⟩
 replace H : ((mixture_Sum.f k 1 1 y312).bind fun bt315=>((soundservicelaw23_one.f k 6000000).bind fun bt319=>((soundservicelaw23_one.f k 6000000).bind fun bt332=>((mixture_Mix.f k 1 1 (([(⟨(⟨bt319.1,bt319.2.1⟩ : S43),(⟨bt319.2.2.1,bt319.2.2.2.1,bt319.2.2.2.2.1⟩ : S50),(⟨bt319.2.2.2.2.2.1,bt319.2.2.2.2.2.2.1,bt319.2.2.2.2.2.2.2.1,bt319.2.2.2.2.2.2.2.2⟩ : S52)⟩ : S54),(⟨(⟨bt332.1,bt332.2.1⟩ : S43),(⟨bt332.2.2.1,bt332.2.2.2.1,bt332.2.2.2.2.1⟩ : S50),(⟨bt332.2.2.2.2.2.1,bt332.2.2.2.2.2.2.1,bt332.2.2.2.2.2.2.2.1,bt332.2.2.2.2.2.2.2.2⟩ : S52)⟩ : S54)] : List (S54))) t281 t282 t283).bind fun bt348=>(if bt315.2=0 then (if bt348.2.2.2.2.2=0 then (if (bt315.1.length : Int)=1 then (if 0<(bt315.1.length : Int) then (if (rd bt315.1 0)=12000000 then (if (bt348.2.1.length : Int)=1 then (if 0<(bt348.2.1.length : Int) then (if (rd bt348.2.1 0)=8388427 then (some (bt348.2.2.2.2.1 == 45812)) else (some false)) else (none)) else (some false)) else (some false)) else (none)) else (some false)) else (some false)) else (some false))))))=some r:=by first|(rw [hy312];with_reducible exact H)|(have H2_:=(Option.bind_some _ _).symm.trans H;rw [hy312];with_reducible exact H2_)|(have H2_:=(Option.bind_some _ _).symm.trans H;with_reducible exact H2_)|with_reducible exact H|(rw [hy312];exact H)|exact H
 have Ny312:=Aside0.mk hy312
 clear hy312
 replace H:=Option.bind_eq_some_iff.mp H
 obtain ⟨⟨t315,t316⟩,A40,H⟩:=H
 replace H : ((soundservicelaw23_one.f k 6000000).bind fun bt319=>((soundservicelaw23_one.f k 6000000).bind fun bt332=>((mixture_Mix.f k 1 1 (([(⟨(⟨bt319.1,bt319.2.1⟩ : S43),(⟨bt319.2.2.1,bt319.2.2.2.1,bt319.2.2.2.2.1⟩ : S50),(⟨bt319.2.2.2.2.2.1,bt319.2.2.2.2.2.2.1,bt319.2.2.2.2.2.2.2.1,bt319.2.2.2.2.2.2.2.2⟩ : S52)⟩ : S54),(⟨(⟨bt332.1,bt332.2.1⟩ : S43),(⟨bt332.2.2.1,bt332.2.2.2.1,bt332.2.2.2.2.1⟩ : S50),(⟨bt332.2.2.2.2.2.1,bt332.2.2.2.2.2.2.1,bt332.2.2.2.2.2.2.2.1,bt332.2.2.2.2.2.2.2.2⟩ : S52)⟩ : S54)] : List (S54))) t281 t282 t283).bind fun bt348=>(if t316=0 then (if bt348.2.2.2.2.2=0 then (if (t315.length : Int)=1 then (if 0<(t315.length : Int) then (if (rd t315 0)=12000000 then (if (bt348.2.1.length : Int)=1 then (if 0<(bt348.2.1.length : Int) then (if (rd bt348.2.1 0)=8388427 then (some (bt348.2.2.2.2.1 == 45812)) else (some false)) else (none)) else (some false)) else (some false)) else (none)) else (some false)) else (some false)) else (some false)))))=some r:=H
 have A4:=Aside0.mk A40
 clear A40
 replace H:=Option.bind_eq_some_iff.mp H
 obtain ⟨⟨t319,t320,t323,t324,t325,t328,t329,t330,t331⟩,A50,H⟩:=H
 replace H : ((soundservicelaw23_one.f k 6000000).bind fun bt332=>((mixture_Mix.f k 1 1 (([(⟨(⟨t319,t320⟩ : S43),(⟨t323,t324,t325⟩ : S50),(⟨t328,t329,t330,t331⟩ : S52)⟩ : S54),(⟨(⟨bt332.1,bt332.2.1⟩ : S43),(⟨bt332.2.2.1,bt332.2.2.2.1,bt332.2.2.2.2.1⟩ : S50),(⟨bt332.2.2.2.2.2.1,bt332.2.2.2.2.2.2.1,bt332.2.2.2.2.2.2.2.1,bt332.2.2.2.2.2.2.2.2⟩ : S52)⟩ : S54)] : List (S54))) t281 t282 t283).bind fun bt348=>(if t316=0 then (if bt348.2.2.2.2.2=0 then (if (t315.length : Int)=1 then (if 0<(t315.length : Int) then (if (rd t315 0)=12000000 then (if (bt348.2.1.length : Int)=1 then (if 0<(bt348.2.1.length : Int) then (if (rd bt348.2.1 0)=8388427 then (some (bt348.2.2.2.2.1 == 45812)) else (some false)) else (none)) else (some false)) else (some false)) else (none)) else (some false)) else (some false)) else (some false))))=some r:=H
 have A5:=Aside0.mk A50
 clear A50
 replace H:=Option.bind_eq_some_iff.mp H
 obtain ⟨⟨t332,t333,t336,t337,t338,t341,t342,t343,t344⟩,A60,H⟩:=H
 replace H : ((mixture_Mix.f k 1 1 (([(⟨(⟨t319,t320⟩ : S43),(⟨t323,t324,t325⟩ : S50),(⟨t328,t329,t330,t331⟩ : S52)⟩ : S54),(⟨(⟨t332,t333⟩ : S43),(⟨t336,t337,t338⟩ : S50),(⟨t341,t342,t343,t344⟩ : S52)⟩ : S54)] : List (S54))) t281 t282 t283).bind fun bt348=>(if t316=0 then (if bt348.2.2.2.2.2=0 then (if (t315.length : Int)=1 then (if 0<(t315.length : Int) then (if (rd t315 0)=12000000 then (if (bt348.2.1.length : Int)=1 then (if 0<(bt348.2.1.length : Int) then (if (rd bt348.2.1 0)=8388427 then (some (bt348.2.2.2.2.1 == 45812)) else (some false)) else (none)) else (some false)) else (some false)) else (none)) else (some false)) else (some false)) else (some false)))=some r:=H
 have A6:=Aside0.mk A60
 clear A60
 obtain ⟨y345,hy345⟩ : ∃ y_ : List (S54),y_=(([(⟨(⟨t319,t320⟩ : S43),(⟨t323,t324,t325⟩ : S50),(⟨t328,t329,t330,t331⟩ : S52)⟩ : S54),(⟨(⟨t332,t333⟩ : S43),(⟨t336,t337,t338⟩ : S50),(⟨t341,t342,t343,t344⟩ : S52)⟩ : S54)] : List (S54))):=⟨_,rfl⟩
 replace H : ((mixture_Mix.f k 1 1 y345 t281 t282 t283).bind fun bt348=>(if t316=0 then (if bt348.2.2.2.2.2=0 then (if (t315.length : Int)=1 then (if 0<(t315.length : Int) then (if (rd t315 0)=12000000 then (if (bt348.2.1.length : Int)=1 then (if 0<(bt348.2.1.length : Int) then (if (rd bt348.2.1 0)=8388427 then (some (bt348.2.2.2.2.1 == 45812)) else (some false)) else (none)) else (some false)) else (some false)) else (none)) else (some false)) else (some false)) else (some false)))=some r:=by first|(rw [hy345];with_reducible exact H)|(have H2_:=(Option.bind_some _ _).symm.trans H;rw [hy345];with_reducible exact H2_)|(have H2_:=(Option.bind_some _ _).symm.trans H;with_reducible exact H2_)|with_reducible exact H|(rw [hy345];exact H)|exact H
 have Ny345:=Aside0.mk hy345
 clear hy345
 replace H:=Option.bind_eq_some_iff.mp H
 obtain ⟨⟨t348,t349,t352,t353,t354,t355⟩,A70,H⟩:=H
 replace H : (if t316=0 then (if t355=0 then (if (t315.length : Int)=1 then (if 0<(t315.length : Int) then (if (rd t315 0)=12000000 then (if (t349.length : Int)=1 then (if 0<(t349.length : Int) then (if (rd t349 0)=8388427 then (some (t354 == 45812)) else (some false)) else (none)) else (some false)) else (some false)) else (none)) else (some false)) else (some false)) else (some false))=some r:=H
 have A7:=Aside0.mk A70
 clear A70
 by_cases c8 : t316=0
 rotate_left
 ·rw [if_neg c8] at H
  have c8b0 : (t316 == 0)=false:=beq_eq_false_iff_ne.mpr c8
  have c8b1 : (t316 != 0)=true:=bne_iff_ne.mpr c8
  exact absurd (H.trans (congrArg some HR_.out)) (by simp)
 rw [if_pos c8] at H
 have c8b0 : (t316 == 0)=true:=beq_iff_eq.mpr c8
 have c8b1 : (t316 != 0)=false:=bne_eq_false_iff_eq.mpr c8
 clear c8
 by_cases c9 : t355=0
 rotate_left
 ·rw [if_neg c9] at H
  have c9b0 : (t355 == 0)=false:=beq_eq_false_iff_ne.mpr c9
  have c9b1 : (t355 != 0)=true:=bne_iff_ne.mpr c9
  exact absurd (H.trans (congrArg some HR_.out)) (by simp)
 rw [if_pos c9] at H
 have c9b0 : (t355 == 0)=true:=beq_iff_eq.mpr c9
 have c9b1 : (t355 != 0)=false:=bne_eq_false_iff_eq.mpr c9
 clear c9
 by_cases c10 : (t315.length : Int)=1
 rotate_left
 ·rw [if_neg c10] at H
  have c10b0 : ((t315.length : Int) == 1)=false:=beq_eq_false_iff_ne.mpr c10
  have c10b1 : ((t315.length : Int) != 1)=true:=bne_iff_ne.mpr c10
  exact absurd (H.trans (congrArg some HR_.out)) (by simp)
 rw [if_pos c10] at H
 have c10b0 : ((t315.length : Int) == 1)=true:=beq_iff_eq.mpr c10
 have c10b1 : ((t315.length : Int) != 1)=false:=bne_eq_false_iff_eq.mpr c10
 clear c10
 by_cases c11 : 0<(t315.length : Int)
 rotate_left
 ·rw [if_neg c11] at H
  exact absurd H (by simp)
 rw [if_pos c11] at H
 have c11b0 : decide (0<(t315.length : Int))=true:=decide_eq_true c11
 have c11b1 : decide (0<t315.length)=true:=decide_eq_true (by omega)
 clear c11
 by_cases c12 : (rd t315 0)=12000000
 rotate_left
 ·rw [if_neg c12] at H
  have c12b0 : ((rd t315 0) == 12000000)=false:=beq_eq_false_iff_ne.mpr c12
  have c12b1 : ((rd t315 0) != 12000000)=true:=bne_iff_ne.mpr c12
  exact absurd (H.trans (congrArg some HR_.out)) (by simp)
 rw [if_pos c12] at H
 have c12b0 : ((rd t315 0) == 12000000)=true:=beq_iff_eq.mpr c12
 have c12b1 : ((rd t315 0) != 12000000)=false:=bne_eq_false_iff_eq.mpr c12
 clear c12
 by_cases c13 : (t349.length : Int)=1
 rotate_left
 ·rw [if_neg c13] at H
  have c13b0 : ((t349.length : Int) == 1)=false:=beq_eq_false_iff_ne.mpr c13
  have c13b1 : ((t349.length : Int) != 1)=true:=bne_iff_ne.mpr c13
  exact absurd (H.trans (congrArg some HR_.out)) (by simp)
 rw [if_pos c13] at H
 have c13b0 : ((t349.length : Int) == 1)=true:=beq_iff_eq.mpr c13
 have c13b1 : ((t349.length : Int) != 1)=false:=bne_eq_false_iff_eq.mpr c13
 clear c13
 by_cases c14 : 0<(t349.length : Int)
 rotate_left
 ·rw [if_neg c14] at H
  exact absurd H (by simp)
 rw [if_pos c14] at H
 have c14b0 : decide (0<(t349.length : Int))=true:=decide_eq_true c14
 have c14b1 : decide (0<t349.length)=true:=decide_eq_true (by omega)
 clear c14
 by_cases c15 : (rd t349 0)=8388427
 rotate_left
 ·rw [if_neg c15] at H
  have c15b0 : ((rd t349 0) == 8388427)=false:=beq_eq_false_iff_ne.mpr c15
  have c15b1 : ((rd t349 0) != 8388427)=true:=bne_iff_ne.mpr c15
  exact absurd (H.trans (congrArg some HR_.out)) (by simp)
 rw [if_pos c15] at H
 have c15b0 : ((rd t349 0) == 8388427)=true:=beq_iff_eq.mpr c15
 have c15b1 : ((rd t349 0) != 8388427)=false:=bne_eq_false_iff_eq.mpr c15
 clear c15
 obtain rfl:=Option.some.inj H
 go_enter Try.func8,Try.ntmps8
 try go_wp2_with (first|((with_reducible refine gate_callee (f:=28) rfl ?_);refine goesL_ (some 9) rfl rfl Try.func28 zk rfl #[.int .i64 8388607,.int .i64 100] rfl zA ?_;(with_reducible refine (soundserviceref08_New.calls 8388607 100 t281 t282 t283 t284 _ A1.out).mono ?_);rintro e w16 ⟨rfl,hb⟩;refine ⟨_,rfl,?_⟩;replace HB:=Aside0.mk (below_step (zW HB) hb);(try clear hb))|((with_reducible refine gate_dst (N:=1) rfl ?_);(try (refine gate_guard (by rfl) ?_;dsimp only));refine box_event ?hg (N:=1) ?hd (cs:=#[.int .i64 0,.int .i64 0,.int .i64 0]) (t:=24) ?hr ?_;(case hd=>rfl);(case hg=>rfl);(case hr=>first|(go_simp;done)|(go_simp;rfl));intro gb285 hg w17 hbox hb;have BK285:=Aside0.mk hbox;have GW285:=Aside0.mk (zS hg HB);have GE285:=Aside0.mk (zS hg HB);replace HB:=Aside0.mk (below_step (zW HB) hb);clear hb hbox hg;have hcz18_0:=zc BK285 0 (.int .i64 0) rfl;have hcz18_1:=zc BK285 1 (.int .i64 0) rfl;have hcz18_2:=zc BK285 2 (.int .i64 0) rfl;have hfz18_0:=blk_frozen BK285.out 0;have hfz18_1:=blk_frozen BK285.out 1;have hfz18_2:=blk_frozen BK285.out 2)|((with_reducible refine gate_callee (f:=29) rfl ?_);refine goesL_ (some 13) rfl rfl Try.func29 zk rfl #[.int .i32 6000000] rfl zA ?_;(with_reducible refine (soundservicelaw23_one.calls k 6000000 t286 t287 t290 t291 t292 t295 t296 t297 t298 _ A2.out).mono ?_);rintro e w19 ⟨v288,v293,rfl,ho0,ho1,hb⟩;refine ⟨_,rfl,?_⟩;have HO289:=Aside0.mk (Kd.R_lower ho0 (below_size (zW HB)));have HO294:=Aside0.mk (Kd.R_lower ho1 (below_size (zW HB)));replace BK285:=Aside0.mk (blk_below (g:=gb285) (o:=.cells #[.int .i64 t281,.int .i64 t282,.int .i64 t283] 24 (0,0)) (zB BK285) hb);replace HB:=Aside0.mk (below_step (zW HB) hb);(try clear hb))|((with_reducible refine gate_callee (f:=29) rfl ?_);refine goesL_ (some 14) rfl rfl Try.func29 zk rfl #[.int .i32 6000000] rfl zA ?_;(with_reducible refine (soundservicelaw23_one.calls k 6000000 t299 t300 t303 t304 t305 t308 t309 t310 t311 _ A3.out).mono ?_);rintro e w20 ⟨v301,v306,rfl,ho0,ho1,hb⟩;refine ⟨_,rfl,?_⟩;have HO302:=Aside0.mk (Kd.R_lower (Kd.R_new' ho0 (Kd.R_lt (zR HO289))) (below_size (zW HB)));replace HO289:=Aside0.mk (Kd.R_elder' (zR HO289) (Kd.R_base ho0) hb);have HO307:=Aside0.mk (Kd.R_lower (Kd.R_new' ho1 (Kd.R_lt (zR HO294))) (below_size (zW HB)));replace HO294:=Aside0.mk (Kd.R_elder' (zR HO294) (Kd.R_base ho1) hb);replace BK285:=Aside0.mk (blk_below (zB BK285) hb);replace HB:=Aside0.mk (below_step (zW HB) hb);(try clear hb);(try clear ho0);(try clear ho1);obtain ⟨Ao21,co21,eo21⟩:=Kd.R_slice HO289.out;subst eo21;obtain ⟨Ao22,co22,eo22⟩:=Kd.R_slice HO294.out;subst eo22;obtain ⟨Ao23,co23,eo23⟩:=Kd.R_slice HO302.out;subst eo23;obtain ⟨Ao24,co24,eo24⟩:=Kd.R_slice HO307.out;subst eo24)|((with_reducible refine gate_dst (N:=15) rfl ?_);(try (refine gate_guard (by rfl) ?_;dsimp only));refine Kd.N_lit k54 _ 54 ?hg (N':=15) ?hd (xs:=([(⟨(⟨t286,t287⟩ : S43),(⟨t290,t291,t292⟩ : S50),(⟨t295,t296,t297,t298⟩ : S52)⟩ : S54),(⟨(⟨t299,t300⟩ : S43),(⟨t303,t304,t305⟩ : S50),(⟨t308,t309,t310,t311⟩ : S52)⟩ : S54)] : List (S54))) (inner:=[.int .i64 t286,.slice Ao21 t287.length co21,.int .i64 t290,.int .i64 t291,.slice Ao22 t292.length co22,.int .i64 t295,.int .i64 t296,.int .i64 t297,.int .i64 t298,.int .i64 t299,.slice Ao23 t300.length co23,.int .i64 t303,.int .i64 t304,.slice Ao24 t305.length co24,.int .i64 t308,.int .i64 t309,.int .i64 t310,.int .i64 t311]) (ok:=(fun k_=>k_≠gb285)) (okp:=(fun k_=>k_≠gb285)) ?hr ?hp (fun _ hk=>hk) ((show ∀ k_,w20.heap.size≤k_→(fun k_=>k_≠gb285) k_ from fun k_ hk=>Kd.freshB (g:=gb285) (o:=.cells #[.int .i64 t281,.int .i64 t282,.int .i64 t283] 24 (0,0)) (zB BK285) k_ hk) _ (Nat.le_refl _)) (Below.refl _ _) (Nat.le_refl _) (by simp) ?_;(case hd=>rfl);(case hg=>rfl);(case hr=>first|(go_simp;done)|(go_simp;rfl));(case hp=>exact (Reps.c9 (show Kd.FK k54 _ _ (⟨(⟨t286,t287⟩ : S43),(⟨t290,t291,t292⟩ : S50),(⟨t295,t296,t297,t298⟩ : S52)⟩ : S54) [.int .i64 t286,.slice Ao21 t287.length co21,.int .i64 t290,.int .i64 t291,.slice Ao22 t292.length co22,.int .i64 t295,.int .i64 t296,.int .i64 t297,.int .i64 t298] from (k54_mkF _ _ (⟨(⟨t286,t287⟩ : S43),(⟨t290,t291,t292⟩ : S50),(⟨t295,t296,t297,t298⟩ : S52)⟩ : S54) (Kd.R_reads' (Kd.R_mono (ok':=(fun k_=>k_≠gb285)) (Kd.R_types (HO289.out) BK285.out (by decide)) (fun k_ hk=>hk.2))).2.1 (Kd.R_F (Kd.R_mono (ok':=(fun k_=>k_≠gb285)) (Kd.R_types (HO289.out) BK285.out (by decide)) (fun k_ hk=>hk.2))) (Kd.R_reads' (Kd.R_mono (ok':=(fun k_=>k_≠gb285)) (Kd.R_types (HO294.out) BK285.out (by decide)) (fun k_ hk=>hk.2))).2.1 (Kd.R_F (Kd.R_mono (ok':=(fun k_=>k_≠gb285)) (Kd.R_types (HO294.out) BK285.out (by decide)) (fun k_ hk=>hk.2))))) (Reps.c9 (show Kd.FK k54 _ _ (⟨(⟨t299,t300⟩ : S43),(⟨t303,t304,t305⟩ : S50),(⟨t308,t309,t310,t311⟩ : S52)⟩ : S54) [.int .i64 t299,.slice Ao23 t300.length co23,.int .i64 t303,.int .i64 t304,.slice Ao24 t305.length co24,.int .i64 t308,.int .i64 t309,.int .i64 t310,.int .i64 t311] from (k54_mkF _ _ (⟨(⟨t299,t300⟩ : S43),(⟨t303,t304,t305⟩ : S50),(⟨t308,t309,t310,t311⟩ : S52)⟩ : S54) (Kd.R_reads' (Kd.R_mono (ok':=(fun k_=>k_≠gb285)) (Kd.R_types (HO302.out) BK285.out (by decide)) (fun k_ hk=>hk.2))).2.1 (Kd.R_F (Kd.R_mono (ok':=(fun k_=>k_≠gb285)) (Kd.R_types (HO302.out) BK285.out (by decide)) (fun k_ hk=>hk.2))) (Kd.R_reads' (Kd.R_mono (ok':=(fun k_=>k_≠gb285)) (Kd.R_types (HO307.out) BK285.out (by decide)) (fun k_ hk=>hk.2))).2.1 (Kd.R_F (Kd.R_mono (ok':=(fun k_=>k_≠gb285)) (Kd.R_types (HO307.out) BK285.out (by decide)) (fun k_ hk=>hk.2))))) (Reps.none _ _))));intro v313 w25 ho26 hb hg_ hnew_;clear hg_ hnew_;(first|rw [← Ny312.out] at ho26|(simp only [Int.reduceToNat] at ho26;rw [← Ny312.out] at ho26));have HO314:=Aside0.mk (Kd.N_lower ho26 (below_size (zW HB)));replace BK285:=Aside0.mk (blk_below (zB BK285) hb);replace HB:=Aside0.mk (below_step (zW HB) hb);clear HO289;clear HO294;clear HO302;clear HO307;clear hb ho26;obtain ⟨Ao27,co27,eo27⟩:=Kd.N_slice HO314.out;subst eo27)|((with_reducible refine gate_callee (f:=14) rfl ?_);refine goesL_ (some 16) rfl rfl Try.func14 zk rfl #[.int .i64 1,.int .i64 1,.slice Ao27 y312.length co27] rfl zA ?_;(with_reducible refine (mixture_Sum.calls k 1 1 _ _ y312 t315 t316 _ ?side1 ?side2 A4.out).mono ?_);(case side1=>repeat (first|exact (Kd.N_reads' HO314.out).2.2|(with_reducible refine Kd.C_alloc ?_ _)|(with_reducible refine Kd.C_drewN ?_ _)|(with_reducible refine Kd.C_drew ?_)));(case side2=>exact (Kd.N_reads' HO314.out).2.1);rintro e w28 ⟨v317,rfl,ho0,hb⟩;refine ⟨_,rfl,?_⟩;replace HO314:=Aside0.mk (Kd.N_elder' (zN HO314) (Kd.R_base ho0) hb);have HO318:=Aside0.mk (Kd.R_lower ho0 (below_size (zW HB)));replace BK285:=Aside0.mk (blk_below (zB BK285) hb);replace HB:=Aside0.mk (below_step (zW HB) hb);(try clear hb);(try clear ho0)))
 have n0_:=Aside0.mk (Kd.R_drew HO318.out)
 have n1_:=Aside0.mk (blk_drew BK285.out)
 have n2_:=Aside0.mk (below_drew1 HB.out)
 clear HO318
 clear BK285
 clear HB
 have HO318:=n0_
 have BK285:=n1_
 have HB:=n2_
 clear n0_ n1_ n2_
 refine start_ (n:=14) (S:=fun w'=>True) (ds:=[]) #[false,false,false,false,false,false,false,false,false,false,false,false,false,false] zk rfl rfl trivial (fun hHeld=>?_);refine with_tabW soundservicelaw23_sane.tab3 soundservicelaw23_sane.bits3 (fun HT_ HW_=>?_)
 generalize w28.drew=w29 at HO318 BK285 HB hHeld ⊢
 refine inv_at [0,1,2,3,4,5,6,7,8,9,10,11,12,13] (fun a0_ b a w'=>∃ (v321 : Value) (v326 : Value) (v334 : Value) (v339 : Value) (v346 : Value) (v350 : Value) (gb356 : Nat) (gb357 : Nat) (m0_ : Value) (m1_ : Value) (m4_ : Value) (m5_ : Value) (m6_ : Value) (m9_ : Value) (m10_ : Value),a=putSel a0_ b [(0,20,m0_),(1,21,m1_),(2,22,v346),(3,23,.agg #[.int .i64 t281,.int .i64 t282,.int .i64 t283]),(4,24,m4_),(5,19,m5_),(6,25,m6_),(7,26,.agg #[.int .i64 t352,.int .i64 t353,.int .i64 t354]),(8,27,.int .i64 t355),(9,5,m9_),(10,6,m10_),(13,7,.int .i64 t355)]∧(Kd.R (Kd.int .i64) 2 w' w.heap.size (fun _=>True) v317 t315)∧(w'.heap[gb285]?=some (.cells #[.int .i64 t281,.int .i64 t282,.int .i64 t283] 24 (0,0)))∧(Below w.heap.size w w')∧(b 9=true→b 10=true→gb357≠gb356)∧(b 9=true→b 10=true→gb356≠gb357)∧(b 0=true→b 1=false→Kd.R (Kd.int .i32) 21 w' w.heap.size (fun _=>True) v321 t320)∧(b 0=true→b 1=false→Kd.R (Kd.int .i64) 3 w' w.heap.size (fun _=>True) v326 t325)∧(b 1=true→b 2=false→Kd.R (Kd.int .i32) 21 w' w.heap.size (fun k_=>some k_≠(v334 : Value).ownBlock) v321 t320)∧(b 1=true→b 2=false→Kd.R (Kd.int .i64) 3 w' w.heap.size (fun k_=>some k_≠(v339 : Value).ownBlock) v326 t325)∧(b 1=true→b 2=false→Kd.R (Kd.int .i32) 21 w' w.heap.size (fun k_=>some k_≠(v321 : Value).ownBlock) v334 t333)∧(b 1=true→b 2=false→Kd.R (Kd.int .i64) 3 w' w.heap.size (fun k_=>some k_≠(v326 : Value).ownBlock) v339 t338)∧(b 2=true→b 4=false→Kd.N k54 54 w' w.heap.size (fun k_=>some k_≠(v317 : Value).ownBlock∧k_≠gb285) v346 y345)∧(b 4=true→Kd.R (Kd.int .i32) 21 w' w.heap.size (fun _=>True) v350 t349)∧(b 9=true→b 11=false→w'.heap[gb356]?=some (.cells #[.int .i64 0,.slice none 0 0] 43 (0,0)))∧(b 9=true→w.heap.size≤gb356)∧(b 9=true→w.heap.size≤gb356)∧(b 9=true→gb285≠gb356)∧(b 9=true→gb356≠gb285)∧(b 10=true→b 12=false→w'.heap[gb357]?=some (.cells #[.int .i64 0,.int .i64 0,.int .i64 0] 24 (0,0)))∧(b 10=true→w.heap.size≤gb357)∧(b 10=true→w.heap.size≤gb357)∧(b 10=true→gb285≠gb357)∧(b 10=true→gb357≠gb285)∧(b 11=true→w'.heap[gb356]?=some (.cells #[.int .i64 t348,v350] 43 (0,0)))∧(b 12=true→w'.heap[gb357]?=some (.cells #[.int .i64 t352,.int .i64 t353,.int .i64 t354] 24 (0,0)))∧(b 0=true→(m0_ : Value) = .agg #[.int .i64 t319,v321,.int .i64 t323,.int .i64 t324,v326,.int .i64 t328,.int .i64 t329,.int .i64 t330,.int .i64 t331])∧(b 1=true→(m1_ : Value) = .agg #[.int .i64 t332,v334,.int .i64 t336,.int .i64 t337,v339,.int .i64 t341,.int .i64 t342,.int .i64 t343,.int .i64 t344])∧(b 4=true→(m4_ : Value) = .tuple #[.agg #[.int .i64 t348,v350],.agg #[.int .i64 t352,.int .i64 t353,.int .i64 t354],.int .i64 t355])∧(b 5=true→(m5_ : Value) = .tuple #[.agg #[.int .i64 t348,v350],.agg #[.int .i64 t352,.int .i64 t353,.int .i64 t354],.int .i64 t355])∧(b 6=true→(m6_ : Value) = .agg #[.int .i64 t348,v350])∧(b 9=true→(m9_ : Value) = .pointer (some ⟨gb356,0,none⟩))∧(b 10=true→(m10_ : Value) = .pointer (some ⟨gb357,0,none⟩))) HT_.out HW_.out zk zk ?_ ?_ ?_
 ·skip
  refine ⟨.bool false,?_⟩
  refine ⟨.bool false,?_⟩
  refine ⟨.bool false,?_⟩
  refine ⟨.bool false,?_⟩
  refine ⟨.bool false,?_⟩
  refine ⟨.bool false,?_⟩
  refine ⟨0,?_⟩
  refine ⟨0,?_⟩
  refine ⟨.bool false,?_⟩
  refine ⟨.bool false,?_⟩
  refine ⟨.bool false,?_⟩
  refine ⟨.bool false,?_⟩
  refine ⟨.bool false,?_⟩
  refine ⟨.bool false,?_⟩
  refine ⟨.bool false,?_⟩
  refine ⟨by simp only [putSel,Bool.false_eq_true,if_false],?_⟩
  refine ⟨(by first|exact HO318.out|exact ((zR HO318))),?_⟩
  refine ⟨BK285.out,?_⟩
  refine ⟨HB.out,?_⟩
  refine ⟨fun h_=>absurd h_ (by decide),?_⟩
  refine ⟨fun h_=>absurd h_ (by decide),?_⟩
  refine ⟨fun h_=>absurd h_ (by decide),?_⟩
  refine ⟨fun h_=>absurd h_ (by decide),?_⟩
  refine ⟨fun h_=>absurd h_ (by decide),?_⟩
  refine ⟨fun h_=>absurd h_ (by decide),?_⟩
  refine ⟨fun h_=>absurd h_ (by decide),?_⟩
  refine ⟨fun h_=>absurd h_ (by decide),?_⟩
  refine ⟨fun h_=>absurd h_ (by decide),?_⟩
  refine ⟨fun h_=>absurd h_ (by decide),?_⟩
  refine ⟨fun h_=>absurd h_ (by decide),?_⟩
  refine ⟨fun h_=>absurd h_ (by decide),?_⟩
  refine ⟨fun h_=>absurd h_ (by decide),?_⟩
  refine ⟨fun h_=>absurd h_ (by decide),?_⟩
  refine ⟨fun h_=>absurd h_ (by decide),?_⟩
  refine ⟨fun h_=>absurd h_ (by decide),?_⟩
  refine ⟨fun h_=>absurd h_ (by decide),?_⟩
  refine ⟨fun h_=>absurd h_ (by decide),?_⟩
  refine ⟨fun h_=>absurd h_ (by decide),?_⟩
  refine ⟨fun h_=>absurd h_ (by decide),?_⟩
  refine ⟨fun h_=>absurd h_ (by decide),?_⟩
  refine ⟨fun h_=>absurd h_ (by decide),?_⟩
  refine ⟨fun h_=>absurd h_ (by decide),?_⟩
  refine ⟨fun h_=>absurd h_ (by decide),?_⟩
  refine ⟨fun h_=>absurd h_ (by decide),?_⟩
  refine ⟨fun h_=>absurd h_ (by decide),?_⟩
  refine ⟨fun h_=>absurd h_ (by decide),?_⟩
  refine ⟨fun h_=>absurd h_ (by decide),?_⟩
  exact fun h_=>absurd h_ (by decide)
 ·skip
  clear BK285 HB HO318
  refine steps_cons ?_ ?_
  ·rintro b a w' ⟨v321,v326,v334,v339,v346,v350,gb356,gb357,m0_,m1_,m4_,m5_,m6_,m9_,m10_,ha,Q_HO318,Q_BK285,Q_HB,Q_NB357_356,Q_NB356_357,Q_HO322,Q_HO327,Q_HO322_e1,Q_HO327_e1,Q_HO335,Q_HO340,Q_HO347,Q_HO351,Q_BK356,Q_GW356,Q_GE356,Q_NB285_356,Q_NB356_285,Q_BK357,Q_GW357,Q_GE357,Q_NB285_357,Q_NB357_285,Q_BK356_e11,Q_BK357_e12,Q_X0_,Q_X1_,Q_X4_,Q_X5_,Q_X6_,Q_X9_,Q_X10_⟩ hb_ hon hoff
   refine ⟨_,rfl,fun K hK=>?_⟩
   replace ha:=Aside0.mk ha
   have HO318:=Aside0.mk Q_HO318
   have BK285:=Aside0.mk Q_BK285
   have HB:=Aside0.mk Q_HB
   refine goes_ Try.func29 zk rfl #[.int .i32 6000000] (by rfl) rfl rfl (by first|(simp only [List.map_toArray,List.map_cons,List.map_nil,Act.eval,Array.getD_eq_getD_getElem?,Option.getD_some];done)|(simp only [List.map_toArray,List.map_cons,List.map_nil,Act.eval,Array.getD_eq_getD_getElem?,Option.getD_some];rfl)) ?_
   with_reducible refine (soundservicelaw23_one.calls k 6000000 t319 t320 t323 t324 t325 t328 t329 t330 t331 _ A5.out).mono ?_
   rintro e w30 ⟨v321,v326,rfl,ho0,ho1,hb⟩
   refine ⟨_,rfl,?_⟩
   have n0_:=Aside0.mk (Kd.R_below (zR HO318) hb)
   have n1_:=Aside0.mk (Kd.R_lower ho0 (below_size (zW HB)))
   have n2_:=Aside0.mk (Kd.R_lower ho1 (below_size (zW HB)))
   have n3_:=Aside0.mk (blk_below (zB BK285) hb)
   have n4_:=Aside0.mk (below_step (zW HB) hb)
   have z_BK356:=fun (h0_ : b 9=true) (h1_ : b 11=false)=>(show w30.heap[gb356]?=some (.cells #[.int .i64 0,.slice none 0 0] 43 (0,0)) from by first|exact (blk_below (zB ⟨Q_BK356 h0_ h1_⟩) hb))
   have z_BK357:=fun (h0_ : b 10=true) (h1_ : b 12=false)=>(show w30.heap[gb357]?=some (.cells #[.int .i64 0,.int .i64 0,.int .i64 0] 24 (0,0)) from by first|exact (blk_below (zB ⟨Q_BK357 h0_ h1_⟩) hb))
   clear HO318
   clear BK285
   clear HB
   have HO318:=n0_
   have HO322:=n1_
   have HO327:=n2_
   have BK285:=n3_
   have HB:=n4_
   clear n0_ n1_ n2_ n3_ n4_
   (try clear hb)
   (try clear hb2)
   (try clear hk)
   (try clear hi)
   (try clear hgw)
   (try clear ho0)
   (try clear ho1)
   refine hK.out _ _ ?_
   refine ⟨v321,?_⟩
   refine ⟨v326,?_⟩
   refine ⟨v334,?_⟩
   refine ⟨v339,?_⟩
   refine ⟨v346,?_⟩
   refine ⟨v350,?_⟩
   refine ⟨gb356,?_⟩
   refine ⟨gb357,?_⟩
   refine ⟨(.agg #[.int .i64 t319,v321,.int .i64 t323,.int .i64 t324,v326,.int .i64 t328,.int .i64 t329,.int .i64 t330,.int .i64 t331]),?_⟩
   refine ⟨m1_,?_⟩
   refine ⟨m4_,?_⟩
   refine ⟨m5_,?_⟩
   refine ⟨m6_,?_⟩
   refine ⟨m9_,?_⟩
   refine ⟨m10_,?_⟩
   refine ⟨(by rw [ha.out];exact putSel_upk 0 hb_ rfl rfl rfl),?_⟩
   refine ⟨(zR HO318),?_⟩
   refine ⟨(zB BK285),?_⟩
   refine ⟨(zW HB),?_⟩
   refine ⟨Q_NB357_356,?_⟩
   refine ⟨Q_NB356_357,?_⟩
   refine ⟨fun _ _=>(zR HO322),?_⟩
   refine ⟨fun _ _=>(zR HO327),?_⟩
   refine ⟨fun h0_ _=>absurd ((hoff 1 zk).symm.trans h0_) (by decide),?_⟩
   refine ⟨fun h0_ _=>absurd ((hoff 1 zk).symm.trans h0_) (by decide),?_⟩
   refine ⟨fun h0_ _=>absurd ((hoff 1 zk).symm.trans h0_) (by decide),?_⟩
   refine ⟨fun h0_ _=>absurd ((hoff 1 zk).symm.trans h0_) (by decide),?_⟩
   refine ⟨fun h0_ _=>absurd ((hoff 2 zk).symm.trans h0_) (by decide),?_⟩
   refine ⟨fun h0_=>absurd ((hoff 4 zk).symm.trans h0_) (by decide),?_⟩
   refine ⟨z_BK356,?_⟩
   refine ⟨Q_GW356,?_⟩
   refine ⟨Q_GE356,?_⟩
   refine ⟨Q_NB285_356,?_⟩
   refine ⟨Q_NB356_285,?_⟩
   refine ⟨z_BK357,?_⟩
   refine ⟨Q_GW357,?_⟩
   refine ⟨Q_GE357,?_⟩
   refine ⟨Q_NB285_357,?_⟩
   refine ⟨Q_NB357_285,?_⟩
   refine ⟨fun h0_=>absurd ((hoff 11 zk).symm.trans h0_) (by decide),?_⟩
   refine ⟨fun h0_=>absurd ((hoff 12 zk).symm.trans h0_) (by decide),?_⟩
   refine ⟨fun _=>rfl,?_⟩
   refine ⟨fun h0_=>absurd ((hoff 1 zk).symm.trans h0_) (by decide),?_⟩
   refine ⟨fun h0_=>absurd ((hoff 4 zk).symm.trans h0_) (by decide),?_⟩
   refine ⟨fun h0_=>absurd ((hoff 5 zk).symm.trans h0_) (by decide),?_⟩
   refine ⟨fun h0_=>absurd ((hoff 6 zk).symm.trans h0_) (by decide),?_⟩
   refine ⟨Q_X9_,?_⟩
   exact Q_X10_
  refine steps_cons ?_ ?_
  ·rintro b a w' ⟨v321,v326,v334,v339,v346,v350,gb356,gb357,m0_,m1_,m4_,m5_,m6_,m9_,m10_,ha,Q_HO318,Q_BK285,Q_HB,Q_NB357_356,Q_NB356_357,Q_HO322,Q_HO327,Q_HO322_e1,Q_HO327_e1,Q_HO335,Q_HO340,Q_HO347,Q_HO351,Q_BK356,Q_GW356,Q_GE356,Q_NB285_356,Q_NB356_285,Q_BK357,Q_GW357,Q_GE357,Q_NB285_357,Q_NB357_285,Q_BK356_e11,Q_BK357_e12,Q_X0_,Q_X1_,Q_X4_,Q_X5_,Q_X6_,Q_X9_,Q_X10_⟩ hb_ hon hoff
   refine ⟨_,rfl,fun K hK=>?_⟩
   replace ha:=Aside0.mk ha
   have HO318:=Aside0.mk Q_HO318
   have BK285:=Aside0.mk Q_BK285
   have HB:=Aside0.mk Q_HB
   have HO322:=Aside0.mk (Q_HO322 (hon 0 zk) hb_)
   have HO327:=Aside0.mk (Q_HO327 (hon 0 zk) hb_)
   refine goes_ Try.func29 zk rfl #[.int .i32 6000000] (by rfl) rfl rfl (by first|(simp only [List.map_toArray,List.map_cons,List.map_nil,Act.eval,Array.getD_eq_getD_getElem?,Option.getD_some];done)|(simp only [List.map_toArray,List.map_cons,List.map_nil,Act.eval,Array.getD_eq_getD_getElem?,Option.getD_some];rfl)) ?_
   with_reducible refine (soundservicelaw23_one.calls k 6000000 t332 t333 t336 t337 t338 t341 t342 t343 t344 _ A6.out).mono ?_
   rintro e w32 ⟨v334,v339,rfl,ho0,ho1,hb⟩
   refine ⟨_,rfl,?_⟩
   have n0_:=Aside0.mk (Kd.R_below (zR HO318) hb)
   have n1_:=Aside0.mk (Kd.R_elder' (zR HO322) (Kd.R_base ho0) hb)
   have n2_:=Aside0.mk (Kd.R_elder' (zR HO327) (Kd.R_base ho1) hb)
   have n3_:=Aside0.mk (Kd.R_lower (Kd.R_new' ho0 (Kd.R_lt (zR HO322))) (below_size (zW HB)))
   have n4_:=Aside0.mk (Kd.R_lower (Kd.R_new' ho1 (Kd.R_lt (zR HO327))) (below_size (zW HB)))
   have n5_:=Aside0.mk (blk_below (zB BK285) hb)
   have n6_:=Aside0.mk (below_step (zW HB) hb)
   have z_BK356:=fun (h0_ : b 9=true) (h1_ : b 11=false)=>(show w32.heap[gb356]?=some (.cells #[.int .i64 0,.slice none 0 0] 43 (0,0)) from by first|exact (blk_below (zB ⟨Q_BK356 h0_ h1_⟩) hb))
   have z_BK357:=fun (h0_ : b 10=true) (h1_ : b 12=false)=>(show w32.heap[gb357]?=some (.cells #[.int .i64 0,.int .i64 0,.int .i64 0] 24 (0,0)) from by first|exact (blk_below (zB ⟨Q_BK357 h0_ h1_⟩) hb))
   clear HO318
   clear HO322
   clear HO327
   clear BK285
   clear HB
   have HO318:=n0_
   have HO322:=n1_
   have HO327:=n2_
   have HO335:=n3_
   have HO340:=n4_
   have BK285:=n5_
   have HB:=n6_
   clear n0_ n1_ n2_ n3_ n4_ n5_ n6_
   (try clear hb)
   (try clear hb2)
   (try clear hk)
   (try clear hi)
   (try clear hgw)
   (try clear ho0)
   (try clear ho1)
   refine hK.out _ _ ?_
   refine ⟨v321,?_⟩
   refine ⟨v326,?_⟩
   refine ⟨v334,?_⟩
   refine ⟨v339,?_⟩
   refine ⟨v346,?_⟩
   refine ⟨v350,?_⟩
   refine ⟨gb356,?_⟩
   refine ⟨gb357,?_⟩
   refine ⟨m0_,?_⟩
   refine ⟨(.agg #[.int .i64 t332,v334,.int .i64 t336,.int .i64 t337,v339,.int .i64 t341,.int .i64 t342,.int .i64 t343,.int .i64 t344]),?_⟩
   refine ⟨m4_,?_⟩
   refine ⟨m5_,?_⟩
   refine ⟨m6_,?_⟩
   refine ⟨m9_,?_⟩
   refine ⟨m10_,?_⟩
   refine ⟨(by rw [ha.out];exact putSel_upk 1 hb_ rfl rfl rfl),?_⟩
   refine ⟨(zR HO318),?_⟩
   refine ⟨(zB BK285),?_⟩
   refine ⟨(zW HB),?_⟩
   refine ⟨Q_NB357_356,?_⟩
   refine ⟨Q_NB356_357,?_⟩
   refine ⟨fun _ h1_=>absurd ((up_self b 1).symm.trans h1_) (by decide),?_⟩
   refine ⟨fun _ h1_=>absurd ((up_self b 1).symm.trans h1_) (by decide),?_⟩
   refine ⟨fun _ _=>(by (with_reducible repeat (first|apply Kd.R_alloc|apply Kd.R_drewN|apply Kd.R_drew));exact Kd.R_mono HO322.out (fun _ hk=>hk.2)),?_⟩
   refine ⟨fun _ _=>(by (with_reducible repeat (first|apply Kd.R_alloc|apply Kd.R_drewN|apply Kd.R_drew));exact Kd.R_mono HO327.out (fun _ hk=>hk.2)),?_⟩
   refine ⟨fun _ _=>(by (with_reducible repeat (first|apply Kd.R_alloc|apply Kd.R_drewN|apply Kd.R_drew));exact Kd.R_mono HO335.out (fun _ hk=>hk.2)),?_⟩
   refine ⟨fun _ _=>(by (with_reducible repeat (first|apply Kd.R_alloc|apply Kd.R_drewN|apply Kd.R_drew));exact Kd.R_mono HO340.out (fun _ hk=>hk.2)),?_⟩
   refine ⟨fun h0_ _=>absurd ((hoff 2 zk).symm.trans h0_) (by decide),?_⟩
   refine ⟨fun h0_=>absurd ((hoff 4 zk).symm.trans h0_) (by decide),?_⟩
   refine ⟨z_BK356,?_⟩
   refine ⟨Q_GW356,?_⟩
   refine ⟨Q_GE356,?_⟩
   refine ⟨Q_NB285_356,?_⟩
   refine ⟨Q_NB356_285,?_⟩
   refine ⟨z_BK357,?_⟩
   refine ⟨Q_GW357,?_⟩
   refine ⟨Q_GE357,?_⟩
   refine ⟨Q_NB285_357,?_⟩
   refine ⟨Q_NB357_285,?_⟩
   refine ⟨fun h0_=>absurd ((hoff 11 zk).symm.trans h0_) (by decide),?_⟩
   refine ⟨fun h0_=>absurd ((hoff 12 zk).symm.trans h0_) (by decide),?_⟩
   refine ⟨Q_X0_,?_⟩
   refine ⟨fun _=>rfl,?_⟩
   refine ⟨fun h0_=>absurd ((hoff 4 zk).symm.trans h0_) (by decide),?_⟩
   refine ⟨fun h0_=>absurd ((hoff 5 zk).symm.trans h0_) (by decide),?_⟩
   refine ⟨fun h0_=>absurd ((hoff 6 zk).symm.trans h0_) (by decide),?_⟩
   refine ⟨Q_X9_,?_⟩
   exact Q_X10_
  refine steps_cons ?_ ?_
  ·rintro b a w' ⟨v321,v326,v334,v339,v346,v350,gb356,gb357,m0_,m1_,m4_,m5_,m6_,m9_,m10_,ha,Q_HO318,Q_BK285,Q_HB,Q_NB357_356,Q_NB356_357,Q_HO322,Q_HO327,Q_HO322_e1,Q_HO327_e1,Q_HO335,Q_HO340,Q_HO347,Q_HO351,Q_BK356,Q_GW356,Q_GE356,Q_NB285_356,Q_NB356_285,Q_BK357,Q_GW357,Q_GE357,Q_NB285_357,Q_NB357_285,Q_BK356_e11,Q_BK357_e12,Q_X0_,Q_X1_,Q_X4_,Q_X5_,Q_X6_,Q_X9_,Q_X10_⟩ hb_ hon hoff
   refine ⟨_,rfl,fun K hK=>?_⟩
   have e20 : a.tmps[20]?=some (m0_):=by rw [ha];exact putSel_on (e:=(0,20,m0_)) 0 rfl rfl (hon 0 zk) rfl
   rw [Q_X0_ (hon 0 zk)] at e20
   have e21 : a.tmps[21]?=some (m1_):=by rw [ha];exact putSel_on (e:=(1,21,m1_)) 1 rfl rfl (hon 1 zk) rfl
   rw [Q_X1_ (hon 1 zk)] at e21
   replace ha:=Aside0.mk ha
   have HO318:=Aside0.mk Q_HO318
   have BK285:=Aside0.mk Q_BK285
   have HB:=Aside0.mk Q_HB
   have HO322:=Aside0.mk (Q_HO322_e1 (hon 1 zk) hb_)
   have HO327:=Aside0.mk (Q_HO327_e1 (hon 1 zk) hb_)
   have HO335:=Aside0.mk (Q_HO335 (hon 1 zk) hb_)
   have HO340:=Aside0.mk (Q_HO340 (hon 1 zk) hb_)
   obtain ⟨Ao33,co33,eo33⟩:=Kd.R_slice HO322.out
   (first|subst eo33|(injection eo33 with f1_ f2_ f3_;have f4_:=f1_.symm;have f5_:=f3_.symm;clear f1_ f2_ f3_;subst f4_;subst f5_))
   obtain ⟨Ao34,co34,eo34⟩:=Kd.R_slice HO327.out
   (first|subst eo34|(injection eo34 with f1_ f2_ f3_;have f4_:=f1_.symm;have f5_:=f3_.symm;clear f1_ f2_ f3_;subst f4_;subst f5_))
   obtain ⟨Ao35,co35,eo35⟩:=Kd.R_slice HO335.out
   (first|subst eo35|(injection eo35 with f1_ f2_ f3_;have f4_:=f1_.symm;have f5_:=f3_.symm;clear f1_ f2_ f3_;subst f4_;subst f5_))
   obtain ⟨Ao36,co36,eo36⟩:=Kd.R_slice HO340.out
   (first|subst eo36|(injection eo36 with f1_ f2_ f3_;have f4_:=f1_.symm;have f5_:=f3_.symm;clear f1_ f2_ f3_;subst f4_;subst f5_))
   refine Kd.N_lit_step k54 _ 54 ?hg (N':=22) ?hd (xs:=([(⟨(⟨t319,t320⟩ : S43),(⟨t323,t324,t325⟩ : S50),(⟨t328,t329,t330,t331⟩ : S52)⟩ : S54),(⟨(⟨t332,t333⟩ : S43),(⟨t336,t337,t338⟩ : S50),(⟨t341,t342,t343,t344⟩ : S52)⟩ : S54)] : List (S54))) (inner:=[.int .i64 t319,.slice Ao33 t320.length co33,.int .i64 t323,.int .i64 t324,.slice Ao34 t325.length co34,.int .i64 t328,.int .i64 t329,.int .i64 t330,.int .i64 t331,.int .i64 t332,.slice Ao35 t333.length co35,.int .i64 t336,.int .i64 t337,.slice Ao36 t338.length co36,.int .i64 t341,.int .i64 t342,.int .i64 t343,.int .i64 t344]) (ok:=(fun k_=>some k_≠(v317 : Value).ownBlock∧k_≠gb285)) (okp:=(fun k_=>some k_≠(v317 : Value).ownBlock∧k_≠gb285)) ?hr ?hp (fun _ hk=>hk) ((show ∀ k_,w'.heap.size≤k_→(fun k_=>some k_≠(v317 : Value).ownBlock∧k_≠gb285) k_ from fun k_ hk=>⟨Kd.fresh' (Kd.R_lt (zR HO318)) k_ hk,Kd.freshB (g:=gb285) (o:=.cells #[.int .i64 t281,.int .i64 t282,.int .i64 t283] 24 (0,0)) (zB BK285) k_ hk⟩) _ (Nat.le_refl _)) (Below.refl _ _) (Nat.le_refl _) (by simp) ?_;(case hd=>rfl);(case hg=>rfl);(case hr=>first|(go_simp;done)|(go_simp;rfl));(case hp=>exact (Reps.c9 (show Kd.FK k54 _ _ (⟨(⟨t319,t320⟩ : S43),(⟨t323,t324,t325⟩ : S50),(⟨t328,t329,t330,t331⟩ : S52)⟩ : S54) [.int .i64 t319,.slice Ao33 t320.length co33,.int .i64 t323,.int .i64 t324,.slice Ao34 t325.length co34,.int .i64 t328,.int .i64 t329,.int .i64 t330,.int .i64 t331] from (k54_mkF _ _ (⟨(⟨t319,t320⟩ : S43),(⟨t323,t324,t325⟩ : S50),(⟨t328,t329,t330,t331⟩ : S52)⟩ : S54) (Kd.R_reads' (Kd.R_mono (ok':=(fun k_=>some k_≠(v317 : Value).ownBlock∧k_≠gb285)) (Kd.R_types (Kd.R_apart' (HO322.out) (Kd.R_typed HO318.out) (by decide)) BK285.out (by decide)) (fun k_ hk=>⟨hk.1.2,hk.2⟩))).2.1 (Kd.R_F (Kd.R_mono (ok':=(fun k_=>some k_≠(v317 : Value).ownBlock∧k_≠gb285)) (Kd.R_types (Kd.R_apart' (HO322.out) (Kd.R_typed HO318.out) (by decide)) BK285.out (by decide)) (fun k_ hk=>⟨hk.1.2,hk.2⟩))) (Kd.R_reads' (Kd.R_mono (ok':=(fun k_=>some k_≠(v317 : Value).ownBlock∧k_≠gb285)) (Kd.R_types (Kd.R_apart' (HO327.out) (Kd.R_typed HO318.out) (by decide)) BK285.out (by decide)) (fun k_ hk=>⟨hk.1.2,hk.2⟩))).2.1 (Kd.R_F (Kd.R_mono (ok':=(fun k_=>some k_≠(v317 : Value).ownBlock∧k_≠gb285)) (Kd.R_types (Kd.R_apart' (HO327.out) (Kd.R_typed HO318.out) (by decide)) BK285.out (by decide)) (fun k_ hk=>⟨hk.1.2,hk.2⟩))))) (Reps.c9 (show Kd.FK k54 _ _ (⟨(⟨t332,t333⟩ : S43),(⟨t336,t337,t338⟩ : S50),(⟨t341,t342,t343,t344⟩ : S52)⟩ : S54) [.int .i64 t332,.slice Ao35 t333.length co35,.int .i64 t336,.int .i64 t337,.slice Ao36 t338.length co36,.int .i64 t341,.int .i64 t342,.int .i64 t343,.int .i64 t344] from (k54_mkF _ _ (⟨(⟨t332,t333⟩ : S43),(⟨t336,t337,t338⟩ : S50),(⟨t341,t342,t343,t344⟩ : S52)⟩ : S54) (Kd.R_reads' (Kd.R_mono (ok':=(fun k_=>some k_≠(v317 : Value).ownBlock∧k_≠gb285)) (Kd.R_types (Kd.R_apart' (HO335.out) (Kd.R_typed HO318.out) (by decide)) BK285.out (by decide)) (fun k_ hk=>⟨hk.1.2,hk.2⟩))).2.1 (Kd.R_F (Kd.R_mono (ok':=(fun k_=>some k_≠(v317 : Value).ownBlock∧k_≠gb285)) (Kd.R_types (Kd.R_apart' (HO335.out) (Kd.R_typed HO318.out) (by decide)) BK285.out (by decide)) (fun k_ hk=>⟨hk.1.2,hk.2⟩))) (Kd.R_reads' (Kd.R_mono (ok':=(fun k_=>some k_≠(v317 : Value).ownBlock∧k_≠gb285)) (Kd.R_types (Kd.R_apart' (HO340.out) (Kd.R_typed HO318.out) (by decide)) BK285.out (by decide)) (fun k_ hk=>⟨hk.1.2,hk.2⟩))).2.1 (Kd.R_F (Kd.R_mono (ok':=(fun k_=>some k_≠(v317 : Value).ownBlock∧k_≠gb285)) (Kd.R_types (Kd.R_apart' (HO340.out) (Kd.R_typed HO318.out) (by decide)) BK285.out (by decide)) (fun k_ hk=>⟨hk.1.2,hk.2⟩))))) (Reps.none _ _))))
   intro v346 w37 ho38 hb hg_ hnew_
   clear hg_ hnew_
   (first|rw [← Ny345.out] at ho38|(simp only [Int.reduceToNat] at ho38;rw [← Ny345.out] at ho38))
   have n0_:=Aside0.mk (Kd.R_below (zR HO318) hb)
   have n1_:=Aside0.mk (Kd.N_lower ho38 (below_size (zW HB)))
   have n2_:=Aside0.mk (blk_below (zB BK285) hb)
   have n3_:=Aside0.mk (below_step (zW HB) hb)
   have z_BK356:=fun (h0_ : b 9=true) (h1_ : b 11=false)=>(show w37.heap[gb356]?=some (.cells #[.int .i64 0,.slice none 0 0] 43 (0,0)) from by first|exact (blk_below (zB ⟨Q_BK356 h0_ h1_⟩) hb))
   have z_BK357:=fun (h0_ : b 10=true) (h1_ : b 12=false)=>(show w37.heap[gb357]?=some (.cells #[.int .i64 0,.int .i64 0,.int .i64 0] 24 (0,0)) from by first|exact (blk_below (zB ⟨Q_BK357 h0_ h1_⟩) hb))
   clear HO318
   clear BK285
   clear HB
   clear HO322
   clear HO327
   clear HO335
   clear HO340
   have HO318:=n0_
   have HO347:=n1_
   have BK285:=n2_
   have HB:=n3_
   clear n0_ n1_ n2_ n3_
   clear hb ho38
   refine hK.out _ _ ?_
   refine ⟨.slice Ao33 t320.length co33,?_⟩
   refine ⟨.slice Ao34 t325.length co34,?_⟩
   refine ⟨.slice Ao35 t333.length co35,?_⟩
   refine ⟨.slice Ao36 t338.length co36,?_⟩
   refine ⟨v346,?_⟩
   refine ⟨v350,?_⟩
   refine ⟨gb356,?_⟩
   refine ⟨gb357,?_⟩
   refine ⟨m0_,?_⟩
   refine ⟨m1_,?_⟩
   refine ⟨m4_,?_⟩
   refine ⟨m5_,?_⟩
   refine ⟨m6_,?_⟩
   refine ⟨m9_,?_⟩
   refine ⟨m10_,?_⟩
   refine ⟨(by rw [ha.out];exact putSel_upk 2 hb_ rfl rfl rfl),?_⟩
   refine ⟨(zR HO318),?_⟩
   refine ⟨(zB BK285),?_⟩
   refine ⟨(zW HB),?_⟩
   refine ⟨Q_NB357_356,?_⟩
   refine ⟨Q_NB356_357,?_⟩
   refine ⟨fun _ h1_=>absurd ((hon 1 zk).symm.trans h1_) (by decide),?_⟩
   refine ⟨fun _ h1_=>absurd ((hon 1 zk).symm.trans h1_) (by decide),?_⟩
   refine ⟨fun _ h1_=>absurd ((up_self b 2).symm.trans h1_) (by decide),?_⟩
   refine ⟨fun _ h1_=>absurd ((up_self b 2).symm.trans h1_) (by decide),?_⟩
   refine ⟨fun _ h1_=>absurd ((up_self b 2).symm.trans h1_) (by decide),?_⟩
   refine ⟨fun _ h1_=>absurd ((up_self b 2).symm.trans h1_) (by decide),?_⟩
   refine ⟨fun _ _=>(zN HO347),?_⟩
   refine ⟨fun h0_=>absurd ((hoff 4 zk).symm.trans h0_) (by decide),?_⟩
   refine ⟨z_BK356,?_⟩
   refine ⟨Q_GW356,?_⟩
   refine ⟨Q_GE356,?_⟩
   refine ⟨Q_NB285_356,?_⟩
   refine ⟨Q_NB356_285,?_⟩
   refine ⟨z_BK357,?_⟩
   refine ⟨Q_GW357,?_⟩
   refine ⟨Q_GE357,?_⟩
   refine ⟨Q_NB285_357,?_⟩
   refine ⟨Q_NB357_285,?_⟩
   refine ⟨fun h0_=>absurd ((hoff 11 zk).symm.trans h0_) (by decide),?_⟩
   refine ⟨fun h0_=>absurd ((hoff 12 zk).symm.trans h0_) (by decide),?_⟩
   refine ⟨Q_X0_,?_⟩
   refine ⟨Q_X1_,?_⟩
   refine ⟨fun h0_=>absurd ((hoff 4 zk).symm.trans h0_) (by decide),?_⟩
   refine ⟨fun h0_=>absurd ((hoff 5 zk).symm.trans h0_) (by decide),?_⟩
   refine ⟨fun h0_=>absurd ((hoff 6 zk).symm.trans h0_) (by decide),?_⟩
   refine ⟨Q_X9_,?_⟩
   exact Q_X10_
  refine steps_cons ?_ ?_
  ·rintro b a w' ⟨v321,v326,v334,v339,v346,v350,gb356,gb357,m0_,m1_,m4_,m5_,m6_,m9_,m10_,ha,Q_HO318,Q_BK285,Q_HB,Q_NB357_356,Q_NB356_357,Q_HO322,Q_HO327,Q_HO322_e1,Q_HO327_e1,Q_HO335,Q_HO340,Q_HO347,Q_HO351,Q_BK356,Q_GW356,Q_GE356,Q_NB285_356,Q_NB356_285,Q_BK357,Q_GW357,Q_GE357,Q_NB285_357,Q_NB357_285,Q_BK356_e11,Q_BK357_e12,Q_X0_,Q_X1_,Q_X4_,Q_X5_,Q_X6_,Q_X9_,Q_X10_⟩ hb_ hon hoff
   refine ⟨_,rfl,fun K hK=>?_⟩
   have e1 : a.tmps[1]?=some (.pointer (some ⟨gb285,0,none⟩)):=by rw [ha];exact (putSel_off rfl).trans rfl
   replace ha:=Aside0.mk ha
   have HO318:=Aside0.mk Q_HO318
   have BK285:=Aside0.mk Q_BK285
   have HB:=Aside0.mk Q_HB
   have hc0_ : w'.cell? ⟨gb285,0,none⟩=some (.int .i64 t281):=(blk_cell BK285.out 0).trans rfl
   have hc1_ : w'.cell? ⟨gb285,1,none⟩=some (.int .i64 t282):=(blk_cell BK285.out 1).trans rfl
   have hc2_ : w'.cell? ⟨gb285,2,none⟩=some (.int .i64 t283):=(blk_cell BK285.out 2).trans rfl
   refine value_ (w1:=w') (v:=.agg #[.int .i64 t281,.int .i64 t282,.int .i64 t283]) (by rfl) rfl ?_ ?_
   ·go_simp
    (try simp only [i64_w])
    try rfl
   refine hK.out _ _ ?_
   refine ⟨v321,?_⟩
   refine ⟨v326,?_⟩
   refine ⟨v334,?_⟩
   refine ⟨v339,?_⟩
   refine ⟨v346,?_⟩
   refine ⟨v350,?_⟩
   refine ⟨gb356,?_⟩
   refine ⟨gb357,?_⟩
   refine ⟨m0_,?_⟩
   refine ⟨m1_,?_⟩
   refine ⟨m4_,?_⟩
   refine ⟨m5_,?_⟩
   refine ⟨m6_,?_⟩
   refine ⟨m9_,?_⟩
   refine ⟨m10_,?_⟩
   refine ⟨(by rw [ha.out];exact putSel_upk 3 hb_ rfl rfl rfl),?_⟩
   refine ⟨Q_HO318,?_⟩
   refine ⟨Q_BK285,?_⟩
   refine ⟨Q_HB,?_⟩
   refine ⟨Q_NB357_356,?_⟩
   refine ⟨Q_NB356_357,?_⟩
   refine ⟨Q_HO322,?_⟩
   refine ⟨Q_HO327,?_⟩
   refine ⟨Q_HO322_e1,?_⟩
   refine ⟨Q_HO327_e1,?_⟩
   refine ⟨Q_HO335,?_⟩
   refine ⟨Q_HO340,?_⟩
   refine ⟨Q_HO347,?_⟩
   refine ⟨fun h0_=>absurd ((hoff 4 zk).symm.trans h0_) (by decide),?_⟩
   refine ⟨Q_BK356,?_⟩
   refine ⟨Q_GW356,?_⟩
   refine ⟨Q_GE356,?_⟩
   refine ⟨Q_NB285_356,?_⟩
   refine ⟨Q_NB356_285,?_⟩
   refine ⟨Q_BK357,?_⟩
   refine ⟨Q_GW357,?_⟩
   refine ⟨Q_GE357,?_⟩
   refine ⟨Q_NB285_357,?_⟩
   refine ⟨Q_NB357_285,?_⟩
   refine ⟨fun h0_=>absurd ((hoff 11 zk).symm.trans h0_) (by decide),?_⟩
   refine ⟨fun h0_=>absurd ((hoff 12 zk).symm.trans h0_) (by decide),?_⟩
   refine ⟨Q_X0_,?_⟩
   refine ⟨Q_X1_,?_⟩
   refine ⟨fun h0_=>absurd ((hoff 4 zk).symm.trans h0_) (by decide),?_⟩
   refine ⟨fun h0_=>absurd ((hoff 5 zk).symm.trans h0_) (by decide),?_⟩
   refine ⟨fun h0_=>absurd ((hoff 6 zk).symm.trans h0_) (by decide),?_⟩
   refine ⟨Q_X9_,?_⟩
   exact Q_X10_
  refine steps_cons ?_ ?_
  ·rintro b a w' ⟨v321,v326,v334,v339,v346,v350,gb356,gb357,m0_,m1_,m4_,m5_,m6_,m9_,m10_,ha,Q_HO318,Q_BK285,Q_HB,Q_NB357_356,Q_NB356_357,Q_HO322,Q_HO327,Q_HO322_e1,Q_HO327_e1,Q_HO335,Q_HO340,Q_HO347,Q_HO351,Q_BK356,Q_GW356,Q_GE356,Q_NB285_356,Q_NB356_285,Q_BK357,Q_GW357,Q_GE357,Q_NB285_357,Q_NB357_285,Q_BK356_e11,Q_BK357_e12,Q_X0_,Q_X1_,Q_X4_,Q_X5_,Q_X6_,Q_X9_,Q_X10_⟩ hb_ hon hoff
   refine ⟨_,rfl,fun K hK=>?_⟩
   have e22 : a.tmps[22]?=some (v346):=by rw [ha];exact putSel_on (e:=(2,22,v346)) 2 rfl rfl (hon 2 zk) rfl
   have e23 : a.tmps[23]?=some (.agg #[.int .i64 t281,.int .i64 t282,.int .i64 t283]):=by rw [ha];exact putSel_on (e:=(3,23,.agg #[.int .i64 t281,.int .i64 t282,.int .i64 t283])) 3 rfl rfl (hon 3 zk) rfl
   replace ha:=Aside0.mk ha
   have HO318:=Aside0.mk Q_HO318
   have BK285:=Aside0.mk Q_BK285
   have HB:=Aside0.mk Q_HB
   have HO347:=Aside0.mk (Q_HO347 (hon 2 zk) hb_)
   obtain ⟨Ao39,co39,eo39⟩:=Kd.N_slice HO347.out
   (first|subst eo39|(injection eo39 with f1_ f2_ f3_;have f4_:=f1_.symm;have f5_:=f3_.symm;clear f1_ f2_ f3_;subst f4_;subst f5_))
   refine goes_ Try.func16 zk rfl #[.int .i64 1,.int .i64 1,.slice Ao39 y345.length co39,.agg #[.int .i64 t281,.int .i64 t282,.int .i64 t283]] (by rfl) rfl rfl (by first|(simp only [List.map_toArray,List.map_cons,List.map_nil,Act.eval,Array.getD_eq_getD_getElem?,Option.getD_some,e22,e23];done)|(simp only [List.map_toArray,List.map_cons,List.map_nil,Act.eval,Array.getD_eq_getD_getElem?,Option.getD_some,e22,e23];rfl)) ?_
   with_reducible refine (mixture_Mix.calls k 1 1 _ _ y345 t281 t282 t283 t348 t349 t352 t353 t354 t355 _ ?side1 ?side2 A7.out).mono ?_
   (case side1=>repeat (first|exact (Kd.N_reads' HO347.out).2.2|(with_reducible refine Kd.C_alloc ?_ _)|(with_reducible refine Kd.C_drewN ?_ _)|(with_reducible refine Kd.C_drew ?_)))
   (case side2=>exact (Kd.N_reads' HO347.out).2.1)
   rintro e w40 ⟨v350,rfl,ho0,hb⟩
   refine ⟨_,rfl,?_⟩
   have n0_:=Aside0.mk (Kd.R_below (zR HO318) hb)
   have n1_:=Aside0.mk (Kd.R_lower ho0 (below_size (zW HB)))
   have n2_:=Aside0.mk (blk_below (zB BK285) hb)
   have n3_:=Aside0.mk (below_step (zW HB) hb)
   have z_BK356:=fun (h0_ : b 9=true) (h1_ : b 11=false)=>(show w40.heap[gb356]?=some (.cells #[.int .i64 0,.slice none 0 0] 43 (0,0)) from by first|exact (blk_below (zB ⟨Q_BK356 h0_ h1_⟩) hb))
   have z_BK357:=fun (h0_ : b 10=true) (h1_ : b 12=false)=>(show w40.heap[gb357]?=some (.cells #[.int .i64 0,.int .i64 0,.int .i64 0] 24 (0,0)) from by first|exact (blk_below (zB ⟨Q_BK357 h0_ h1_⟩) hb))
   clear HO318
   clear BK285
   clear HB
   clear HO347
   have HO318:=n0_
   have HO351:=n1_
   have BK285:=n2_
   have HB:=n3_
   clear n0_ n1_ n2_ n3_
   (try clear hb)
   (try clear hb2)
   (try clear hk)
   (try clear hi)
   (try clear hgw)
   (try clear ho0)
   refine hK.out _ _ ?_
   refine ⟨v321,?_⟩
   refine ⟨v326,?_⟩
   refine ⟨v334,?_⟩
   refine ⟨v339,?_⟩
   refine ⟨.slice Ao39 y345.length co39,?_⟩
   refine ⟨v350,?_⟩
   refine ⟨gb356,?_⟩
   refine ⟨gb357,?_⟩
   refine ⟨m0_,?_⟩
   refine ⟨m1_,?_⟩
   refine ⟨(.tuple #[.agg #[.int .i64 t348,v350],.agg #[.int .i64 t352,.int .i64 t353,.int .i64 t354],.int .i64 t355]),?_⟩
   refine ⟨m5_,?_⟩
   refine ⟨m6_,?_⟩
   refine ⟨m9_,?_⟩
   refine ⟨m10_,?_⟩
   refine ⟨(by rw [ha.out];exact putSel_upk 4 hb_ rfl rfl rfl),?_⟩
   refine ⟨(zR HO318),?_⟩
   refine ⟨(zB BK285),?_⟩
   refine ⟨(zW HB),?_⟩
   refine ⟨Q_NB357_356,?_⟩
   refine ⟨Q_NB356_357,?_⟩
   refine ⟨fun _ h1_=>absurd ((hon 1 zk).symm.trans h1_) (by decide),?_⟩
   refine ⟨fun _ h1_=>absurd ((hon 1 zk).symm.trans h1_) (by decide),?_⟩
   refine ⟨fun _ h1_=>absurd ((hon 2 zk).symm.trans h1_) (by decide),?_⟩
   refine ⟨fun _ h1_=>absurd ((hon 2 zk).symm.trans h1_) (by decide),?_⟩
   refine ⟨fun _ h1_=>absurd ((hon 2 zk).symm.trans h1_) (by decide),?_⟩
   refine ⟨fun _ h1_=>absurd ((hon 2 zk).symm.trans h1_) (by decide),?_⟩
   refine ⟨fun _ h1_=>absurd ((up_self b 4).symm.trans h1_) (by decide),?_⟩
   refine ⟨fun _=>(zR HO351),?_⟩
   refine ⟨z_BK356,?_⟩
   refine ⟨Q_GW356,?_⟩
   refine ⟨Q_GE356,?_⟩
   refine ⟨Q_NB285_356,?_⟩
   refine ⟨Q_NB356_285,?_⟩
   refine ⟨z_BK357,?_⟩
   refine ⟨Q_GW357,?_⟩
   refine ⟨Q_GE357,?_⟩
   refine ⟨Q_NB285_357,?_⟩
   refine ⟨Q_NB357_285,?_⟩
   refine ⟨fun h0_=>absurd ((hoff 11 zk).symm.trans h0_) (by decide),?_⟩
   refine ⟨fun h0_=>absurd ((hoff 12 zk).symm.trans h0_) (by decide),?_⟩
   refine ⟨Q_X0_,?_⟩
   refine ⟨Q_X1_,?_⟩
   refine ⟨fun _=>rfl,?_⟩
   refine ⟨fun h0_=>absurd ((hoff 5 zk).symm.trans h0_) (by decide),?_⟩
   refine ⟨fun h0_=>absurd ((hoff 6 zk).symm.trans h0_) (by decide),?_⟩
   refine ⟨Q_X9_,?_⟩
   exact Q_X10_
  refine steps_cons ?_ ?_
  ·rintro b a w' ⟨v321,v326,v334,v339,v346,v350,gb356,gb357,m0_,m1_,m4_,m5_,m6_,m9_,m10_,ha,Q_HO318,Q_BK285,Q_HB,Q_NB357_356,Q_NB356_357,Q_HO322,Q_HO327,Q_HO322_e1,Q_HO327_e1,Q_HO335,Q_HO340,Q_HO347,Q_HO351,Q_BK356,Q_GW356,Q_GE356,Q_NB285_356,Q_NB356_285,Q_BK357,Q_GW357,Q_GE357,Q_NB285_357,Q_NB357_285,Q_BK356_e11,Q_BK357_e12,Q_X0_,Q_X1_,Q_X4_,Q_X5_,Q_X6_,Q_X9_,Q_X10_⟩ hb_ hon hoff
   refine ⟨_,rfl,fun K hK=>?_⟩
   have e24 : a.tmps[24]?=some (m4_):=by rw [ha];exact putSel_on (e:=(4,24,m4_)) 4 rfl rfl (hon 4 zk) rfl
   rw [Q_X4_ (hon 4 zk)] at e24
   replace ha:=Aside0.mk ha
   have HO318:=Aside0.mk Q_HO318
   have BK285:=Aside0.mk Q_BK285
   have HB:=Aside0.mk Q_HB
   have HO351:=Aside0.mk (Q_HO351 (hon 4 zk))
   refine value_ (w1:=w') (v:=.tuple #[.agg #[.int .i64 t348,v350],.agg #[.int .i64 t352,.int .i64 t353,.int .i64 t354],.int .i64 t355]) (by rfl) rfl ?_ ?_
   ·go_simp
    (try simp only [i64_w])
    try rfl
   refine hK.out _ _ ?_
   refine ⟨v321,?_⟩
   refine ⟨v326,?_⟩
   refine ⟨v334,?_⟩
   refine ⟨v339,?_⟩
   refine ⟨v346,?_⟩
   refine ⟨v350,?_⟩
   refine ⟨gb356,?_⟩
   refine ⟨gb357,?_⟩
   refine ⟨m0_,?_⟩
   refine ⟨m1_,?_⟩
   refine ⟨m4_,?_⟩
   refine ⟨(.tuple #[.agg #[.int .i64 t348,v350],.agg #[.int .i64 t352,.int .i64 t353,.int .i64 t354],.int .i64 t355]),?_⟩
   refine ⟨m6_,?_⟩
   refine ⟨m9_,?_⟩
   refine ⟨m10_,?_⟩
   refine ⟨(by rw [ha.out];exact putSel_upk 5 hb_ rfl rfl rfl),?_⟩
   refine ⟨Q_HO318,?_⟩
   refine ⟨Q_BK285,?_⟩
   refine ⟨Q_HB,?_⟩
   refine ⟨Q_NB357_356,?_⟩
   refine ⟨Q_NB356_357,?_⟩
   refine ⟨fun _ h1_=>absurd ((hon 1 zk).symm.trans h1_) (by decide),?_⟩
   refine ⟨fun _ h1_=>absurd ((hon 1 zk).symm.trans h1_) (by decide),?_⟩
   refine ⟨fun _ h1_=>absurd ((hon 2 zk).symm.trans h1_) (by decide),?_⟩
   refine ⟨fun _ h1_=>absurd ((hon 2 zk).symm.trans h1_) (by decide),?_⟩
   refine ⟨fun _ h1_=>absurd ((hon 2 zk).symm.trans h1_) (by decide),?_⟩
   refine ⟨fun _ h1_=>absurd ((hon 2 zk).symm.trans h1_) (by decide),?_⟩
   refine ⟨fun _ h1_=>absurd ((hon 4 zk).symm.trans h1_) (by decide),?_⟩
   refine ⟨Q_HO351,?_⟩
   refine ⟨Q_BK356,?_⟩
   refine ⟨Q_GW356,?_⟩
   refine ⟨Q_GE356,?_⟩
   refine ⟨Q_NB285_356,?_⟩
   refine ⟨Q_NB356_285,?_⟩
   refine ⟨Q_BK357,?_⟩
   refine ⟨Q_GW357,?_⟩
   refine ⟨Q_GE357,?_⟩
   refine ⟨Q_NB285_357,?_⟩
   refine ⟨Q_NB357_285,?_⟩
   refine ⟨fun h0_=>absurd ((hoff 11 zk).symm.trans h0_) (by decide),?_⟩
   refine ⟨fun h0_=>absurd ((hoff 12 zk).symm.trans h0_) (by decide),?_⟩
   refine ⟨Q_X0_,?_⟩
   refine ⟨Q_X1_,?_⟩
   refine ⟨Q_X4_,?_⟩
   refine ⟨fun _=>rfl,?_⟩
   refine ⟨fun h0_=>absurd ((hoff 6 zk).symm.trans h0_) (by decide),?_⟩
   refine ⟨Q_X9_,?_⟩
   exact Q_X10_
  refine steps_cons ?_ ?_
  ·rintro b a w' ⟨v321,v326,v334,v339,v346,v350,gb356,gb357,m0_,m1_,m4_,m5_,m6_,m9_,m10_,ha,Q_HO318,Q_BK285,Q_HB,Q_NB357_356,Q_NB356_357,Q_HO322,Q_HO327,Q_HO322_e1,Q_HO327_e1,Q_HO335,Q_HO340,Q_HO347,Q_HO351,Q_BK356,Q_GW356,Q_GE356,Q_NB285_356,Q_NB356_285,Q_BK357,Q_GW357,Q_GE357,Q_NB285_357,Q_NB357_285,Q_BK356_e11,Q_BK357_e12,Q_X0_,Q_X1_,Q_X4_,Q_X5_,Q_X6_,Q_X9_,Q_X10_⟩ hb_ hon hoff
   refine ⟨_,rfl,fun K hK=>?_⟩
   have e19 : a.tmps[19]?=some (m5_):=by rw [ha];exact putSel_on (e:=(5,19,m5_)) 5 rfl rfl (hon 5 zk) rfl
   rw [Q_X5_ (hon 5 zk)] at e19
   replace ha:=Aside0.mk ha
   have HO318:=Aside0.mk Q_HO318
   have BK285:=Aside0.mk Q_BK285
   have HB:=Aside0.mk Q_HB
   have HO351:=Aside0.mk (Q_HO351 (hon 4 zk))
   refine value_ (w1:=w') (v:=.agg #[.int .i64 t348,v350]) (by rfl) rfl ?_ ?_
   ·go_simp
    (try simp only [i64_w])
    try rfl
   refine hK.out _ _ ?_
   refine ⟨v321,?_⟩
   refine ⟨v326,?_⟩
   refine ⟨v334,?_⟩
   refine ⟨v339,?_⟩
   refine ⟨v346,?_⟩
   refine ⟨v350,?_⟩
   refine ⟨gb356,?_⟩
   refine ⟨gb357,?_⟩
   refine ⟨m0_,?_⟩
   refine ⟨m1_,?_⟩
   refine ⟨m4_,?_⟩
   refine ⟨m5_,?_⟩
   refine ⟨(.agg #[.int .i64 t348,v350]),?_⟩
   refine ⟨m9_,?_⟩
   refine ⟨m10_,?_⟩
   refine ⟨(by rw [ha.out];exact putSel_upk 6 hb_ rfl rfl rfl),?_⟩
   refine ⟨Q_HO318,?_⟩
   refine ⟨Q_BK285,?_⟩
   refine ⟨Q_HB,?_⟩
   refine ⟨Q_NB357_356,?_⟩
   refine ⟨Q_NB356_357,?_⟩
   refine ⟨fun _ h1_=>absurd ((hon 1 zk).symm.trans h1_) (by decide),?_⟩
   refine ⟨fun _ h1_=>absurd ((hon 1 zk).symm.trans h1_) (by decide),?_⟩
   refine ⟨fun _ h1_=>absurd ((hon 2 zk).symm.trans h1_) (by decide),?_⟩
   refine ⟨fun _ h1_=>absurd ((hon 2 zk).symm.trans h1_) (by decide),?_⟩
   refine ⟨fun _ h1_=>absurd ((hon 2 zk).symm.trans h1_) (by decide),?_⟩
   refine ⟨fun _ h1_=>absurd ((hon 2 zk).symm.trans h1_) (by decide),?_⟩
   refine ⟨fun _ h1_=>absurd ((hon 4 zk).symm.trans h1_) (by decide),?_⟩
   refine ⟨Q_HO351,?_⟩
   refine ⟨Q_BK356,?_⟩
   refine ⟨Q_GW356,?_⟩
   refine ⟨Q_GE356,?_⟩
   refine ⟨Q_NB285_356,?_⟩
   refine ⟨Q_NB356_285,?_⟩
   refine ⟨Q_BK357,?_⟩
   refine ⟨Q_GW357,?_⟩
   refine ⟨Q_GE357,?_⟩
   refine ⟨Q_NB285_357,?_⟩
   refine ⟨Q_NB357_285,?_⟩
   refine ⟨fun h0_=>absurd ((hoff 11 zk).symm.trans h0_) (by decide),?_⟩
   refine ⟨fun h0_=>absurd ((hoff 12 zk).symm.trans h0_) (by decide),?_⟩
   refine ⟨Q_X0_,?_⟩
   refine ⟨Q_X1_,?_⟩
   refine ⟨Q_X4_,?_⟩
   refine ⟨Q_X5_,?_⟩
   refine ⟨fun _=>rfl,?_⟩
   refine ⟨Q_X9_,?_⟩
   exact Q_X10_
  refine steps_cons ?_ ?_
  ·rintro b a w' ⟨v321,v326,v334,v339,v346,v350,gb356,gb357,m0_,m1_,m4_,m5_,m6_,m9_,m10_,ha,Q_HO318,Q_BK285,Q_HB,Q_NB357_356,Q_NB356_357,Q_HO322,Q_HO327,Q_HO322_e1,Q_HO327_e1,Q_HO335,Q_HO340,Q_HO347,Q_HO351,Q_BK356,Q_GW356,Q_GE356,Q_NB285_356,Q_NB356_285,Q_BK357,Q_GW357,Q_GE357,Q_NB285_357,Q_NB357_285,Q_BK356_e11,Q_BK357_e12,Q_X0_,Q_X1_,Q_X4_,Q_X5_,Q_X6_,Q_X9_,Q_X10_⟩ hb_ hon hoff
   refine ⟨_,rfl,fun K hK=>?_⟩
   have e19 : a.tmps[19]?=some (m5_):=by rw [ha];exact putSel_on (e:=(5,19,m5_)) 5 rfl rfl (hon 5 zk) rfl
   rw [Q_X5_ (hon 5 zk)] at e19
   replace ha:=Aside0.mk ha
   have HO318:=Aside0.mk Q_HO318
   have BK285:=Aside0.mk Q_BK285
   have HB:=Aside0.mk Q_HB
   have HO351:=Aside0.mk (Q_HO351 (hon 4 zk))
   refine value_ (w1:=w') (v:=.agg #[.int .i64 t352,.int .i64 t353,.int .i64 t354]) (by rfl) rfl ?_ ?_
   ·go_simp
    (try simp only [i64_w])
    try rfl
   refine hK.out _ _ ?_
   refine ⟨v321,?_⟩
   refine ⟨v326,?_⟩
   refine ⟨v334,?_⟩
   refine ⟨v339,?_⟩
   refine ⟨v346,?_⟩
   refine ⟨v350,?_⟩
   refine ⟨gb356,?_⟩
   refine ⟨gb357,?_⟩
   refine ⟨m0_,?_⟩
   refine ⟨m1_,?_⟩
   refine ⟨m4_,?_⟩
   refine ⟨m5_,?_⟩
   refine ⟨m6_,?_⟩
   refine ⟨m9_,?_⟩
   refine ⟨m10_,?_⟩
   refine ⟨(by rw [ha.out];exact putSel_upk 7 hb_ rfl rfl rfl),?_⟩
   refine ⟨Q_HO318,?_⟩
   refine ⟨Q_BK285,?_⟩
   refine ⟨Q_HB,?_⟩
   refine ⟨Q_NB357_356,?_⟩
   refine ⟨Q_NB356_357,?_⟩
   refine ⟨fun _ h1_=>absurd ((hon 1 zk).symm.trans h1_) (by decide),?_⟩
   refine ⟨fun _ h1_=>absurd ((hon 1 zk).symm.trans h1_) (by decide),?_⟩
   refine ⟨fun _ h1_=>absurd ((hon 2 zk).symm.trans h1_) (by decide),?_⟩
   refine ⟨fun _ h1_=>absurd ((hon 2 zk).symm.trans h1_) (by decide),?_⟩
   refine ⟨fun _ h1_=>absurd ((hon 2 zk).symm.trans h1_) (by decide),?_⟩
   refine ⟨fun _ h1_=>absurd ((hon 2 zk).symm.trans h1_) (by decide),?_⟩
   refine ⟨fun _ h1_=>absurd ((hon 4 zk).symm.trans h1_) (by decide),?_⟩
   refine ⟨Q_HO351,?_⟩
   refine ⟨Q_BK356,?_⟩
   refine ⟨Q_GW356,?_⟩
   refine ⟨Q_GE356,?_⟩
   refine ⟨Q_NB285_356,?_⟩
   refine ⟨Q_NB356_285,?_⟩
   refine ⟨Q_BK357,?_⟩
   refine ⟨Q_GW357,?_⟩
   refine ⟨Q_GE357,?_⟩
   refine ⟨Q_NB285_357,?_⟩
   refine ⟨Q_NB357_285,?_⟩
   refine ⟨Q_BK356_e11,?_⟩
   refine ⟨fun h0_=>absurd ((hoff 12 zk).symm.trans h0_) (by decide),?_⟩
   refine ⟨Q_X0_,?_⟩
   refine ⟨Q_X1_,?_⟩
   refine ⟨Q_X4_,?_⟩
   refine ⟨Q_X5_,?_⟩
   refine ⟨Q_X6_,?_⟩
   refine ⟨Q_X9_,?_⟩
   exact Q_X10_
  refine steps_cons ?_ ?_
  ·rintro b a w' ⟨v321,v326,v334,v339,v346,v350,gb356,gb357,m0_,m1_,m4_,m5_,m6_,m9_,m10_,ha,Q_HO318,Q_BK285,Q_HB,Q_NB357_356,Q_NB356_357,Q_HO322,Q_HO327,Q_HO322_e1,Q_HO327_e1,Q_HO335,Q_HO340,Q_HO347,Q_HO351,Q_BK356,Q_GW356,Q_GE356,Q_NB285_356,Q_NB356_285,Q_BK357,Q_GW357,Q_GE357,Q_NB285_357,Q_NB357_285,Q_BK356_e11,Q_BK357_e12,Q_X0_,Q_X1_,Q_X4_,Q_X5_,Q_X6_,Q_X9_,Q_X10_⟩ hb_ hon hoff
   refine ⟨_,rfl,fun K hK=>?_⟩
   have e19 : a.tmps[19]?=some (m5_):=by rw [ha];exact putSel_on (e:=(5,19,m5_)) 5 rfl rfl (hon 5 zk) rfl
   rw [Q_X5_ (hon 5 zk)] at e19
   replace ha:=Aside0.mk ha
   have HO318:=Aside0.mk Q_HO318
   have BK285:=Aside0.mk Q_BK285
   have HB:=Aside0.mk Q_HB
   have HO351:=Aside0.mk (Q_HO351 (hon 4 zk))
   refine value_ (w1:=w') (v:=.int .i64 t355) (by rfl) rfl ?_ ?_
   ·go_simp
    (try simp only [i64_w])
    try rfl
   refine hK.out _ _ ?_
   refine ⟨v321,?_⟩
   refine ⟨v326,?_⟩
   refine ⟨v334,?_⟩
   refine ⟨v339,?_⟩
   refine ⟨v346,?_⟩
   refine ⟨v350,?_⟩
   refine ⟨gb356,?_⟩
   refine ⟨gb357,?_⟩
   refine ⟨m0_,?_⟩
   refine ⟨m1_,?_⟩
   refine ⟨m4_,?_⟩
   refine ⟨m5_,?_⟩
   refine ⟨m6_,?_⟩
   refine ⟨m9_,?_⟩
   refine ⟨m10_,?_⟩
   refine ⟨(by rw [ha.out];exact putSel_upk 8 hb_ rfl rfl rfl),?_⟩
   refine ⟨Q_HO318,?_⟩
   refine ⟨Q_BK285,?_⟩
   refine ⟨Q_HB,?_⟩
   refine ⟨Q_NB357_356,?_⟩
   refine ⟨Q_NB356_357,?_⟩
   refine ⟨fun _ h1_=>absurd ((hon 1 zk).symm.trans h1_) (by decide),?_⟩
   refine ⟨fun _ h1_=>absurd ((hon 1 zk).symm.trans h1_) (by decide),?_⟩
   refine ⟨fun _ h1_=>absurd ((hon 2 zk).symm.trans h1_) (by decide),?_⟩
   refine ⟨fun _ h1_=>absurd ((hon 2 zk).symm.trans h1_) (by decide),?_⟩
   refine ⟨fun _ h1_=>absurd ((hon 2 zk).symm.trans h1_) (by decide),?_⟩
   refine ⟨fun _ h1_=>absurd ((hon 2 zk).symm.trans h1_) (by decide),?_⟩
   refine ⟨fun _ h1_=>absurd ((hon 4 zk).symm.trans h1_) (by decide),?_⟩
   refine ⟨Q_HO351,?_⟩
   refine ⟨Q_BK356,?_⟩
   refine ⟨Q_GW356,?_⟩
   refine ⟨Q_GE356,?_⟩
   refine ⟨Q_NB285_356,?_⟩
   refine ⟨Q_NB356_285,?_⟩
   refine ⟨Q_BK357,?_⟩
   refine ⟨Q_GW357,?_⟩
   refine ⟨Q_GE357,?_⟩
   refine ⟨Q_NB285_357,?_⟩
   refine ⟨Q_NB357_285,?_⟩
   refine ⟨Q_BK356_e11,?_⟩
   refine ⟨Q_BK357_e12,?_⟩
   refine ⟨Q_X0_,?_⟩
   refine ⟨Q_X1_,?_⟩
   refine ⟨Q_X4_,?_⟩
   refine ⟨Q_X5_,?_⟩
   refine ⟨Q_X6_,?_⟩
   refine ⟨Q_X9_,?_⟩
   exact Q_X10_
  refine steps_cons ?_ ?_
  ·rintro b a w' ⟨v321,v326,v334,v339,v346,v350,gb356,gb357,m0_,m1_,m4_,m5_,m6_,m9_,m10_,ha,Q_HO318,Q_BK285,Q_HB,Q_NB357_356,Q_NB356_357,Q_HO322,Q_HO327,Q_HO322_e1,Q_HO327_e1,Q_HO335,Q_HO340,Q_HO347,Q_HO351,Q_BK356,Q_GW356,Q_GE356,Q_NB285_356,Q_NB356_285,Q_BK357,Q_GW357,Q_GE357,Q_NB285_357,Q_NB357_285,Q_BK356_e11,Q_BK357_e12,Q_X0_,Q_X1_,Q_X4_,Q_X5_,Q_X6_,Q_X9_,Q_X10_⟩ hb_ hon hoff
   refine ⟨_,rfl,fun K hK=>?_⟩
   replace ha:=Aside0.mk ha
   have HO318:=Aside0.mk Q_HO318
   have BK285:=Aside0.mk Q_BK285
   have HB:=Aside0.mk Q_HB
   refine box_step ?hg (N:=5) ?hd (cs:=#[.int .i64 0,.slice none 0 0]) (t:=43) ?hr ?_;(case hd=>rfl);(case hg=>rfl);(case hr=>first|(go_simp;done)|(go_simp;rfl))
   intro gb356 hg w30 hbox hb
   have n0_:=Aside0.mk (Kd.R_below (zR HO318) hb)
   have n1_:=Aside0.mk (blk_below (zB BK285) hb)
   have n2_:=Aside0.mk (below_step (zW HB) hb)
   have n3_:=Aside0.mk hbox
   have n4_:=Aside0.mk (zS hg HB)
   have n5_:=Aside0.mk (zS hg HB)
   have n6_:=Aside0.mk (zL hg BK285)
   have n7_:=Aside0.mk (zG hg BK285)
   have z_NB357_356:=fun (h0_ : up b 9 9=true) (h1_ : up b 9 10=true)=>(show gb357≠gb356 from ((by rw [hg];exact Nat.ne_of_lt (blk_lt (zB ⟨Q_BK357 h1_ (hoff 12 zk)⟩)) : gb357≠gb356)))
   have z_NB356_357:=fun (h0_ : up b 9 9=true) (h1_ : up b 9 10=true)=>(show gb356≠gb357 from ((by rw [hg];exact Nat.ne_of_gt (blk_lt (zB ⟨Q_BK357 h1_ (hoff 12 zk)⟩)) : gb356≠gb357)))
   have z_HO322:=fun (h0_ : b 0=true) (h1_ : b 1=false)=>(show Kd.R (Kd.int .i32) 21 w30 w.heap.size (fun _=>True) v321 t320 from by first|exact (Kd.R_below (zR ⟨Q_HO322 h0_ h1_⟩) hb)|exact Kd.R_mono (Kd.R_below (zR ⟨Q_HO322 h0_ h1_⟩) hb) (fun _ h_=>by first|trivial|exact h_|exact h_.1))
   have z_HO327:=fun (h0_ : b 0=true) (h1_ : b 1=false)=>(show Kd.R (Kd.int .i64) 3 w30 w.heap.size (fun _=>True) v326 t325 from by first|exact (Kd.R_below (zR ⟨Q_HO327 h0_ h1_⟩) hb)|exact Kd.R_mono (Kd.R_below (zR ⟨Q_HO327 h0_ h1_⟩) hb) (fun _ h_=>by first|trivial|exact h_|exact h_.1))
   have z_HO322_e1:=fun (h0_ : b 1=true) (h1_ : b 2=false)=>(show Kd.R (Kd.int .i32) 21 w30 w.heap.size (fun k_=>some k_≠(v334 : Value).ownBlock) v321 t320 from by first|exact (Kd.R_below (zR ⟨Q_HO322_e1 h0_ h1_⟩) hb)|exact Kd.R_mono (Kd.R_below (zR ⟨Q_HO322_e1 h0_ h1_⟩) hb) (fun _ h_=>by first|trivial|exact h_|exact h_.1))
   have z_HO327_e1:=fun (h0_ : b 1=true) (h1_ : b 2=false)=>(show Kd.R (Kd.int .i64) 3 w30 w.heap.size (fun k_=>some k_≠(v339 : Value).ownBlock) v326 t325 from by first|exact (Kd.R_below (zR ⟨Q_HO327_e1 h0_ h1_⟩) hb)|exact Kd.R_mono (Kd.R_below (zR ⟨Q_HO327_e1 h0_ h1_⟩) hb) (fun _ h_=>by first|trivial|exact h_|exact h_.1))
   have z_HO335:=fun (h0_ : b 1=true) (h1_ : b 2=false)=>(show Kd.R (Kd.int .i32) 21 w30 w.heap.size (fun k_=>some k_≠(v321 : Value).ownBlock) v334 t333 from by first|exact (Kd.R_below (zR ⟨Q_HO335 h0_ h1_⟩) hb)|exact Kd.R_mono (Kd.R_below (zR ⟨Q_HO335 h0_ h1_⟩) hb) (fun _ h_=>by first|trivial|exact h_|exact h_.1))
   have z_HO340:=fun (h0_ : b 1=true) (h1_ : b 2=false)=>(show Kd.R (Kd.int .i64) 3 w30 w.heap.size (fun k_=>some k_≠(v326 : Value).ownBlock) v339 t338 from by first|exact (Kd.R_below (zR ⟨Q_HO340 h0_ h1_⟩) hb)|exact Kd.R_mono (Kd.R_below (zR ⟨Q_HO340 h0_ h1_⟩) hb) (fun _ h_=>by first|trivial|exact h_|exact h_.1))
   have z_HO347:=fun (h0_ : b 2=true) (h1_ : b 4=false)=>(show Kd.N k54 54 w30 w.heap.size (fun k_=>some k_≠(v317 : Value).ownBlock∧k_≠gb285) v346 y345 from by first|exact (Kd.N_below (Kd.N_elderB (zN ⟨Q_HO347 h0_ h1_⟩) gb356 (Nat.le_of_eq hg.symm)) hb)|exact Kd.N_mono (Kd.N_below (Kd.N_elderB (zN ⟨Q_HO347 h0_ h1_⟩) gb356 (Nat.le_of_eq hg.symm)) hb) (fun _ h_=>by first|trivial|exact h_|exact h_.1))
   have z_HO351:=fun (h0_ : b 4=true)=>(show Kd.R (Kd.int .i32) 21 w30 w.heap.size (fun _=>True) v350 t349 from by first|exact (Kd.R_below (zR ⟨Q_HO351 h0_⟩) hb)|exact Kd.R_mono (Kd.R_below (zR ⟨Q_HO351 h0_⟩) hb) (fun _ h_=>by first|trivial|exact h_|exact h_.1))
   have z_BK357:=fun (h0_ : b 10=true) (h1_ : b 12=false)=>(show w30.heap[gb357]?=some (.cells #[.int .i64 0,.int .i64 0,.int .i64 0] 24 (0,0)) from by first|exact (blk_below (zB ⟨Q_BK357 h0_ h1_⟩) hb))
   clear HO318
   clear BK285
   clear HB
   have HO318:=n0_
   have BK285:=n1_
   have HB:=n2_
   have BK356:=n3_
   have GW356:=n4_
   have GE356:=n5_
   have NB285_356:=n6_
   have NB356_285:=n7_
   clear n0_ n1_ n2_ n3_ n4_ n5_ n6_ n7_
   clear hb hbox hg
   refine hK.out _ _ ?_
   refine ⟨v321,?_⟩
   refine ⟨v326,?_⟩
   refine ⟨v334,?_⟩
   refine ⟨v339,?_⟩
   refine ⟨v346,?_⟩
   refine ⟨v350,?_⟩
   refine ⟨gb356,?_⟩
   refine ⟨gb357,?_⟩
   refine ⟨m0_,?_⟩
   refine ⟨m1_,?_⟩
   refine ⟨m4_,?_⟩
   refine ⟨m5_,?_⟩
   refine ⟨m6_,?_⟩
   refine ⟨(.pointer (some ⟨gb356,0,none⟩)),?_⟩
   refine ⟨m10_,?_⟩
   refine ⟨(by rw [ha.out];exact putSel_upk 9 hb_ rfl rfl rfl),?_⟩
   refine ⟨(zR HO318),?_⟩
   refine ⟨(zB BK285),?_⟩
   refine ⟨(zW HB),?_⟩
   refine ⟨z_NB357_356,?_⟩
   refine ⟨z_NB356_357,?_⟩
   refine ⟨z_HO322,?_⟩
   refine ⟨z_HO327,?_⟩
   refine ⟨z_HO322_e1,?_⟩
   refine ⟨z_HO327_e1,?_⟩
   refine ⟨z_HO335,?_⟩
   refine ⟨z_HO340,?_⟩
   refine ⟨z_HO347,?_⟩
   refine ⟨z_HO351,?_⟩
   refine ⟨fun _ _=>(zB BK356),?_⟩
   refine ⟨fun _=>GW356.out,?_⟩
   refine ⟨fun _=>GE356.out,?_⟩
   refine ⟨fun _=>NB285_356.out,?_⟩
   refine ⟨fun _=>NB356_285.out,?_⟩
   refine ⟨z_BK357,?_⟩
   refine ⟨Q_GW357,?_⟩
   refine ⟨Q_GE357,?_⟩
   refine ⟨Q_NB285_357,?_⟩
   refine ⟨Q_NB357_285,?_⟩
   refine ⟨fun h0_=>absurd ((hoff 11 zk).symm.trans h0_) (by decide),?_⟩
   refine ⟨fun h0_=>absurd ((hoff 12 zk).symm.trans h0_) (by decide),?_⟩
   refine ⟨Q_X0_,?_⟩
   refine ⟨Q_X1_,?_⟩
   refine ⟨Q_X4_,?_⟩
   refine ⟨Q_X5_,?_⟩
   refine ⟨Q_X6_,?_⟩
   refine ⟨fun _=>rfl,?_⟩
   exact Q_X10_
  refine steps_cons ?_ ?_
  ·rintro b a w' ⟨v321,v326,v334,v339,v346,v350,gb356,gb357,m0_,m1_,m4_,m5_,m6_,m9_,m10_,ha,Q_HO318,Q_BK285,Q_HB,Q_NB357_356,Q_NB356_357,Q_HO322,Q_HO327,Q_HO322_e1,Q_HO327_e1,Q_HO335,Q_HO340,Q_HO347,Q_HO351,Q_BK356,Q_GW356,Q_GE356,Q_NB285_356,Q_NB356_285,Q_BK357,Q_GW357,Q_GE357,Q_NB285_357,Q_NB357_285,Q_BK356_e11,Q_BK357_e12,Q_X0_,Q_X1_,Q_X4_,Q_X5_,Q_X6_,Q_X9_,Q_X10_⟩ hb_ hon hoff
   refine ⟨_,rfl,fun K hK=>?_⟩
   replace ha:=Aside0.mk ha
   have HO318:=Aside0.mk Q_HO318
   have BK285:=Aside0.mk Q_BK285
   have HB:=Aside0.mk Q_HB
   refine box_step ?hg (N:=6) ?hd (cs:=#[.int .i64 0,.int .i64 0,.int .i64 0]) (t:=24) ?hr ?_;(case hd=>rfl);(case hg=>rfl);(case hr=>first|(go_simp;done)|(go_simp;rfl))
   intro gb357 hg w30 hbox hb
   have n0_:=Aside0.mk (Kd.R_below (zR HO318) hb)
   have n1_:=Aside0.mk (blk_below (zB BK285) hb)
   have n2_:=Aside0.mk (below_step (zW HB) hb)
   have n3_:=Aside0.mk hbox
   have n4_:=Aside0.mk (zS hg HB)
   have n5_:=Aside0.mk (zS hg HB)
   have n6_:=Aside0.mk (zL hg BK285)
   have n7_:=Aside0.mk (zG hg BK285)
   have z_NB357_356:=fun (h0_ : up b 10 9=true) (h1_ : up b 10 10=true)=>(show gb357≠gb356 from ((by rw [hg];exact Nat.ne_of_gt (blk_lt (zB ⟨Q_BK356 h0_ (hoff 11 zk)⟩)) : gb357≠gb356)))
   have z_NB356_357:=fun (h0_ : up b 10 9=true) (h1_ : up b 10 10=true)=>(show gb356≠gb357 from ((by rw [hg];exact Nat.ne_of_lt (blk_lt (zB ⟨Q_BK356 h0_ (hoff 11 zk)⟩)) : gb356≠gb357)))
   have z_HO322:=fun (h0_ : b 0=true) (h1_ : b 1=false)=>(show Kd.R (Kd.int .i32) 21 w30 w.heap.size (fun _=>True) v321 t320 from by first|exact (Kd.R_below (zR ⟨Q_HO322 h0_ h1_⟩) hb)|exact Kd.R_mono (Kd.R_below (zR ⟨Q_HO322 h0_ h1_⟩) hb) (fun _ h_=>by first|trivial|exact h_|exact h_.1))
   have z_HO327:=fun (h0_ : b 0=true) (h1_ : b 1=false)=>(show Kd.R (Kd.int .i64) 3 w30 w.heap.size (fun _=>True) v326 t325 from by first|exact (Kd.R_below (zR ⟨Q_HO327 h0_ h1_⟩) hb)|exact Kd.R_mono (Kd.R_below (zR ⟨Q_HO327 h0_ h1_⟩) hb) (fun _ h_=>by first|trivial|exact h_|exact h_.1))
   have z_HO322_e1:=fun (h0_ : b 1=true) (h1_ : b 2=false)=>(show Kd.R (Kd.int .i32) 21 w30 w.heap.size (fun k_=>some k_≠(v334 : Value).ownBlock) v321 t320 from by first|exact (Kd.R_below (zR ⟨Q_HO322_e1 h0_ h1_⟩) hb)|exact Kd.R_mono (Kd.R_below (zR ⟨Q_HO322_e1 h0_ h1_⟩) hb) (fun _ h_=>by first|trivial|exact h_|exact h_.1))
   have z_HO327_e1:=fun (h0_ : b 1=true) (h1_ : b 2=false)=>(show Kd.R (Kd.int .i64) 3 w30 w.heap.size (fun k_=>some k_≠(v339 : Value).ownBlock) v326 t325 from by first|exact (Kd.R_below (zR ⟨Q_HO327_e1 h0_ h1_⟩) hb)|exact Kd.R_mono (Kd.R_below (zR ⟨Q_HO327_e1 h0_ h1_⟩) hb) (fun _ h_=>by first|trivial|exact h_|exact h_.1))
   have z_HO335:=fun (h0_ : b 1=true) (h1_ : b 2=false)=>(show Kd.R (Kd.int .i32) 21 w30 w.heap.size (fun k_=>some k_≠(v321 : Value).ownBlock) v334 t333 from by first|exact (Kd.R_below (zR ⟨Q_HO335 h0_ h1_⟩) hb)|exact Kd.R_mono (Kd.R_below (zR ⟨Q_HO335 h0_ h1_⟩) hb) (fun _ h_=>by first|trivial|exact h_|exact h_.1))
   have z_HO340:=fun (h0_ : b 1=true) (h1_ : b 2=false)=>(show Kd.R (Kd.int .i64) 3 w30 w.heap.size (fun k_=>some k_≠(v326 : Value).ownBlock) v339 t338 from by first|exact (Kd.R_below (zR ⟨Q_HO340 h0_ h1_⟩) hb)|exact Kd.R_mono (Kd.R_below (zR ⟨Q_HO340 h0_ h1_⟩) hb) (fun _ h_=>by first|trivial|exact h_|exact h_.1))
   have z_HO347:=fun (h0_ : b 2=true) (h1_ : b 4=false)=>(show Kd.N k54 54 w30 w.heap.size (fun k_=>some k_≠(v317 : Value).ownBlock∧k_≠gb285) v346 y345 from by first|exact (Kd.N_below (Kd.N_elderB (zN ⟨Q_HO347 h0_ h1_⟩) gb357 (Nat.le_of_eq hg.symm)) hb)|exact Kd.N_mono (Kd.N_below (Kd.N_elderB (zN ⟨Q_HO347 h0_ h1_⟩) gb357 (Nat.le_of_eq hg.symm)) hb) (fun _ h_=>by first|trivial|exact h_|exact h_.1))
   have z_HO351:=fun (h0_ : b 4=true)=>(show Kd.R (Kd.int .i32) 21 w30 w.heap.size (fun _=>True) v350 t349 from by first|exact (Kd.R_below (zR ⟨Q_HO351 h0_⟩) hb)|exact Kd.R_mono (Kd.R_below (zR ⟨Q_HO351 h0_⟩) hb) (fun _ h_=>by first|trivial|exact h_|exact h_.1))
   have z_BK356:=fun (h0_ : b 9=true) (h1_ : b 11=false)=>(show w30.heap[gb356]?=some (.cells #[.int .i64 0,.slice none 0 0] 43 (0,0)) from by first|exact (blk_below (zB ⟨Q_BK356 h0_ h1_⟩) hb))
   clear HO318
   clear BK285
   clear HB
   have HO318:=n0_
   have BK285:=n1_
   have HB:=n2_
   have BK357:=n3_
   have GW357:=n4_
   have GE357:=n5_
   have NB285_357:=n6_
   have NB357_285:=n7_
   clear n0_ n1_ n2_ n3_ n4_ n5_ n6_ n7_
   clear hb hbox hg
   refine hK.out _ _ ?_
   refine ⟨v321,?_⟩
   refine ⟨v326,?_⟩
   refine ⟨v334,?_⟩
   refine ⟨v339,?_⟩
   refine ⟨v346,?_⟩
   refine ⟨v350,?_⟩
   refine ⟨gb356,?_⟩
   refine ⟨gb357,?_⟩
   refine ⟨m0_,?_⟩
   refine ⟨m1_,?_⟩
   refine ⟨m4_,?_⟩
   refine ⟨m5_,?_⟩
   refine ⟨m6_,?_⟩
   refine ⟨m9_,?_⟩
   refine ⟨(.pointer (some ⟨gb357,0,none⟩)),?_⟩
   refine ⟨(by rw [ha.out];exact putSel_upk 10 hb_ rfl rfl rfl),?_⟩
   refine ⟨(zR HO318),?_⟩
   refine ⟨(zB BK285),?_⟩
   refine ⟨(zW HB),?_⟩
   refine ⟨z_NB357_356,?_⟩
   refine ⟨z_NB356_357,?_⟩
   refine ⟨z_HO322,?_⟩
   refine ⟨z_HO327,?_⟩
   refine ⟨z_HO322_e1,?_⟩
   refine ⟨z_HO327_e1,?_⟩
   refine ⟨z_HO335,?_⟩
   refine ⟨z_HO340,?_⟩
   refine ⟨z_HO347,?_⟩
   refine ⟨z_HO351,?_⟩
   refine ⟨z_BK356,?_⟩
   refine ⟨Q_GW356,?_⟩
   refine ⟨Q_GE356,?_⟩
   refine ⟨Q_NB285_356,?_⟩
   refine ⟨Q_NB356_285,?_⟩
   refine ⟨fun _ _=>(zB BK357),?_⟩
   refine ⟨fun _=>GW357.out,?_⟩
   refine ⟨fun _=>GE357.out,?_⟩
   refine ⟨fun _=>NB285_357.out,?_⟩
   refine ⟨fun _=>NB357_285.out,?_⟩
   refine ⟨fun h0_=>absurd ((hoff 11 zk).symm.trans h0_) (by decide),?_⟩
   refine ⟨fun h0_=>absurd ((hoff 12 zk).symm.trans h0_) (by decide),?_⟩
   refine ⟨Q_X0_,?_⟩
   refine ⟨Q_X1_,?_⟩
   refine ⟨Q_X4_,?_⟩
   refine ⟨Q_X5_,?_⟩
   refine ⟨Q_X6_,?_⟩
   refine ⟨Q_X9_,?_⟩
   exact fun _=>rfl
  refine steps_cons ?_ ?_
  ·rintro b a w' ⟨v321,v326,v334,v339,v346,v350,gb356,gb357,m0_,m1_,m4_,m5_,m6_,m9_,m10_,ha,Q_HO318,Q_BK285,Q_HB,Q_NB357_356,Q_NB356_357,Q_HO322,Q_HO327,Q_HO322_e1,Q_HO327_e1,Q_HO335,Q_HO340,Q_HO347,Q_HO351,Q_BK356,Q_GW356,Q_GE356,Q_NB285_356,Q_NB356_285,Q_BK357,Q_GW357,Q_GE357,Q_NB285_357,Q_NB357_285,Q_BK356_e11,Q_BK357_e12,Q_X0_,Q_X1_,Q_X4_,Q_X5_,Q_X6_,Q_X9_,Q_X10_⟩ hb_ hon hoff
   refine ⟨_,rfl,fun K hK=>?_⟩
   have e5 : a.tmps[5]?=some (m9_):=by rw [ha];exact putSel_on (e:=(9,5,m9_)) 9 rfl rfl (hon 9 zk) rfl
   rw [Q_X9_ (hon 9 zk)] at e5
   have e25 : a.tmps[25]?=some (m6_):=by rw [ha];exact putSel_on (e:=(6,25,m6_)) 6 rfl rfl (hon 6 zk) rfl
   rw [Q_X6_ (hon 6 zk)] at e25
   replace ha:=Aside0.mk ha
   have HO318:=Aside0.mk Q_HO318
   have BK285:=Aside0.mk Q_BK285
   have HB:=Aside0.mk Q_HB
   have NB357_356:=Aside0.mk (Q_NB357_356 (hon 9 zk) (hon 10 zk))
   have NB356_357:=Aside0.mk (Q_NB356_357 (hon 9 zk) (hon 10 zk))
   have HO351:=Aside0.mk (Q_HO351 (hon 4 zk))
   have BK356:=Aside0.mk (Q_BK356 (hon 9 zk) hb_)
   have GW356:=Aside0.mk (Q_GW356 (hon 9 zk))
   have GE356:=Aside0.mk (Q_GE356 (hon 9 zk))
   have NB285_356:=Aside0.mk (Q_NB285_356 (hon 9 zk))
   have NB356_285:=Aside0.mk (Q_NB356_285 (hon 9 zk))
   have BK357:=Aside0.mk (Q_BK357 (hon 10 zk) (hoff 12 zk))
   have GW357:=Aside0.mk (Q_GW357 (hon 10 zk))
   have GE357:=Aside0.mk (Q_GE357 (hon 10 zk))
   have NB285_357:=Aside0.mk (Q_NB285_357 (hon 10 zk))
   have NB357_285:=Aside0.mk (Q_NB357_285 (hon 10 zk))
   obtain ⟨Ao44,co44,eo44⟩:=Kd.R_slice HO351.out
   (first|subst eo44|(injection eo44 with f1_ f2_ f3_;have f4_:=f1_.symm;have f5_:=f3_.symm;clear f1_ f2_ f3_;subst f4_;subst f5_))
   have hs43 : w'.cell? ⟨gb356,0,none⟩=some (.int .i64 0):=(blk_cell BK356.out 0).trans rfl
   have hfs43:=blk_frozen BK356.out 0
   have hns43_0:=NB285_356.out
   have hns43_2:=NB357_356.out
   have hms43_0:=NB356_285.out
   have hms43_2:=NB356_357.out
   have hs45 : w'.cell? ⟨gb356,1,none⟩=some (.slice none 0 0):=(blk_cell BK356.out 1).trans rfl
   have hfs45:=blk_frozen BK356.out 1
   have hns45_0:=NB285_356.out
   have hns45_2:=NB357_356.out
   have hms45_0:=NB356_285.out
   have hms45_2:=NB356_357.out
   refine skip_ (w1:=?_) (by rfl) rfl ?_ ?_
   rotate_left
   ·go_simp
    rfl
   refine hK.out _ _ ?_
   refine ⟨v321,?_⟩
   refine ⟨v326,?_⟩
   refine ⟨v334,?_⟩
   refine ⟨v339,?_⟩
   refine ⟨v346,?_⟩
   refine ⟨.slice Ao44 t349.length co44,?_⟩
   refine ⟨gb356,?_⟩
   refine ⟨gb357,?_⟩
   refine ⟨m0_,?_⟩
   refine ⟨m1_,?_⟩
   refine ⟨m4_,?_⟩
   refine ⟨m5_,?_⟩
   refine ⟨m6_,?_⟩
   refine ⟨m9_,?_⟩
   refine ⟨m10_,?_⟩
   refine ⟨(by rw [ha.out];exact putSel_none (v:=undef) rfl),?_⟩
   refine ⟨(by (with_reducible repeat (first|apply Kd.R_alloc|apply Kd.R_drewN|apply Kd.R_drew));exact Kd.R_mono (Kd.R_far (p:=⟨gb356,1,none⟩) (Kd.R_far (p:=⟨gb356,0,none⟩) (Kd.R_types HO318.out BK356.out (by decide)) (fun _ hk=>hk.2) (.int .i64 t348)) (fun _ hk=>hk.2) (.slice Ao44 t349.length co44)) (fun _ hk=>trivial)),?_⟩
   refine ⟨(zB BK285),?_⟩
   refine ⟨(zW HB),?_⟩
   refine ⟨fun _ _=>NB357_356.out,?_⟩
   refine ⟨fun _ _=>NB356_357.out,?_⟩
   refine ⟨fun _ h1_=>absurd ((hon 1 zk).symm.trans h1_) (by decide),?_⟩
   refine ⟨fun _ h1_=>absurd ((hon 1 zk).symm.trans h1_) (by decide),?_⟩
   refine ⟨fun _ h1_=>absurd ((hon 2 zk).symm.trans h1_) (by decide),?_⟩
   refine ⟨fun _ h1_=>absurd ((hon 2 zk).symm.trans h1_) (by decide),?_⟩
   refine ⟨fun _ h1_=>absurd ((hon 2 zk).symm.trans h1_) (by decide),?_⟩
   refine ⟨fun _ h1_=>absurd ((hon 2 zk).symm.trans h1_) (by decide),?_⟩
   refine ⟨fun _ h1_=>absurd ((hon 4 zk).symm.trans h1_) (by decide),?_⟩
   refine ⟨fun _=>(by (with_reducible repeat (first|apply Kd.R_alloc|apply Kd.R_drewN|apply Kd.R_drew));exact Kd.R_mono (Kd.R_far (p:=⟨gb356,1,none⟩) (Kd.R_far (p:=⟨gb356,0,none⟩) (Kd.R_types HO351.out BK356.out (by decide)) (fun _ hk=>hk.2) (.int .i64 t348)) (fun _ hk=>hk.2) (.slice Ao44 t349.length co44)) (fun _ hk=>trivial)),?_⟩
   refine ⟨fun _ h1_=>absurd ((up_self b 11).symm.trans h1_) (by decide),?_⟩
   refine ⟨fun _=>GW356.out,?_⟩
   refine ⟨fun _=>GE356.out,?_⟩
   refine ⟨fun _=>NB285_356.out,?_⟩
   refine ⟨fun _=>NB356_285.out,?_⟩
   refine ⟨fun _ _=>(zB BK357),?_⟩
   refine ⟨fun _=>GW357.out,?_⟩
   refine ⟨fun _=>GE357.out,?_⟩
   refine ⟨fun _=>NB285_357.out,?_⟩
   refine ⟨fun _=>NB357_285.out,?_⟩
   refine ⟨fun _=>(zB BK356),?_⟩
   refine ⟨fun h0_=>absurd ((hoff 12 zk).symm.trans h0_) (by decide),?_⟩
   refine ⟨Q_X0_,?_⟩
   refine ⟨Q_X1_,?_⟩
   refine ⟨Q_X4_,?_⟩
   refine ⟨Q_X5_,?_⟩
   refine ⟨Q_X6_,?_⟩
   refine ⟨Q_X9_,?_⟩
   exact Q_X10_
  refine steps_cons ?_ ?_
  ·rintro b a w' ⟨v321,v326,v334,v339,v346,v350,gb356,gb357,m0_,m1_,m4_,m5_,m6_,m9_,m10_,ha,Q_HO318,Q_BK285,Q_HB,Q_NB357_356,Q_NB356_357,Q_HO322,Q_HO327,Q_HO322_e1,Q_HO327_e1,Q_HO335,Q_HO340,Q_HO347,Q_HO351,Q_BK356,Q_GW356,Q_GE356,Q_NB285_356,Q_NB356_285,Q_BK357,Q_GW357,Q_GE357,Q_NB285_357,Q_NB357_285,Q_BK356_e11,Q_BK357_e12,Q_X0_,Q_X1_,Q_X4_,Q_X5_,Q_X6_,Q_X9_,Q_X10_⟩ hb_ hon hoff
   refine ⟨_,rfl,fun K hK=>?_⟩
   have e6 : a.tmps[6]?=some (m10_):=by rw [ha];exact putSel_on (e:=(10,6,m10_)) 10 rfl rfl (hon 10 zk) rfl
   rw [Q_X10_ (hon 10 zk)] at e6
   have e26 : a.tmps[26]?=some (.agg #[.int .i64 t352,.int .i64 t353,.int .i64 t354]):=by rw [ha];exact putSel_on (e:=(7,26,.agg #[.int .i64 t352,.int .i64 t353,.int .i64 t354])) 7 rfl rfl (hon 7 zk) rfl
   replace ha:=Aside0.mk ha
   have HO318:=Aside0.mk Q_HO318
   have BK285:=Aside0.mk Q_BK285
   have HB:=Aside0.mk Q_HB
   have NB357_356:=Aside0.mk (Q_NB357_356 (hon 9 zk) (hon 10 zk))
   have NB356_357:=Aside0.mk (Q_NB356_357 (hon 9 zk) (hon 10 zk))
   have HO351:=Aside0.mk (Q_HO351 (hon 4 zk))
   have GW356:=Aside0.mk (Q_GW356 (hon 9 zk))
   have GE356:=Aside0.mk (Q_GE356 (hon 9 zk))
   have NB285_356:=Aside0.mk (Q_NB285_356 (hon 9 zk))
   have NB356_285:=Aside0.mk (Q_NB356_285 (hon 9 zk))
   have BK357:=Aside0.mk (Q_BK357 (hon 10 zk) hb_)
   have GW357:=Aside0.mk (Q_GW357 (hon 10 zk))
   have GE357:=Aside0.mk (Q_GE357 (hon 10 zk))
   have NB285_357:=Aside0.mk (Q_NB285_357 (hon 10 zk))
   have NB357_285:=Aside0.mk (Q_NB357_285 (hon 10 zk))
   have BK356:=Aside0.mk (Q_BK356_e11 (hon 11 zk))
   have hs46 : w'.cell? ⟨gb357,0,none⟩=some (.int .i64 0):=(blk_cell BK357.out 0).trans rfl
   have hfs46:=blk_frozen BK357.out 0
   have hns46_0:=NB285_357.out
   have hns46_1:=NB356_357.out
   have hms46_0:=NB357_285.out
   have hms46_1:=NB357_356.out
   have hs47 : w'.cell? ⟨gb357,1,none⟩=some (.int .i64 0):=(blk_cell BK357.out 1).trans rfl
   have hfs47:=blk_frozen BK357.out 1
   have hns47_0:=NB285_357.out
   have hns47_1:=NB356_357.out
   have hms47_0:=NB357_285.out
   have hms47_1:=NB357_356.out
   have hs48 : w'.cell? ⟨gb357,2,none⟩=some (.int .i64 0):=(blk_cell BK357.out 2).trans rfl
   have hfs48:=blk_frozen BK357.out 2
   have hns48_0:=NB285_357.out
   have hns48_1:=NB356_357.out
   have hms48_0:=NB357_285.out
   have hms48_1:=NB357_356.out
   refine skip_ (w1:=?_) (by rfl) rfl ?_ ?_
   rotate_left
   ·go_simp
    rfl
   refine hK.out _ _ ?_
   refine ⟨v321,?_⟩
   refine ⟨v326,?_⟩
   refine ⟨v334,?_⟩
   refine ⟨v339,?_⟩
   refine ⟨v346,?_⟩
   refine ⟨v350,?_⟩
   refine ⟨gb356,?_⟩
   refine ⟨gb357,?_⟩
   refine ⟨m0_,?_⟩
   refine ⟨m1_,?_⟩
   refine ⟨m4_,?_⟩
   refine ⟨m5_,?_⟩
   refine ⟨m6_,?_⟩
   refine ⟨m9_,?_⟩
   refine ⟨m10_,?_⟩
   refine ⟨(by rw [ha.out];exact putSel_none (v:=undef) rfl),?_⟩
   refine ⟨(by (with_reducible repeat (first|apply Kd.R_alloc|apply Kd.R_drewN|apply Kd.R_drew));exact Kd.R_mono (Kd.R_far (p:=⟨gb357,2,none⟩) (Kd.R_far (p:=⟨gb357,1,none⟩) (Kd.R_far (p:=⟨gb357,0,none⟩) (Kd.R_types HO318.out BK357.out (by decide)) (fun _ hk=>hk.2) (.int .i64 t352)) (fun _ hk=>hk.2) (.int .i64 t353)) (fun _ hk=>hk.2) (.int .i64 t354)) (fun _ hk=>trivial)),?_⟩
   refine ⟨(zB BK285),?_⟩
   refine ⟨(zW HB),?_⟩
   refine ⟨fun _ _=>NB357_356.out,?_⟩
   refine ⟨fun _ _=>NB356_357.out,?_⟩
   refine ⟨fun _ h1_=>absurd ((hon 1 zk).symm.trans h1_) (by decide),?_⟩
   refine ⟨fun _ h1_=>absurd ((hon 1 zk).symm.trans h1_) (by decide),?_⟩
   refine ⟨fun _ h1_=>absurd ((hon 2 zk).symm.trans h1_) (by decide),?_⟩
   refine ⟨fun _ h1_=>absurd ((hon 2 zk).symm.trans h1_) (by decide),?_⟩
   refine ⟨fun _ h1_=>absurd ((hon 2 zk).symm.trans h1_) (by decide),?_⟩
   refine ⟨fun _ h1_=>absurd ((hon 2 zk).symm.trans h1_) (by decide),?_⟩
   refine ⟨fun _ h1_=>absurd ((hon 4 zk).symm.trans h1_) (by decide),?_⟩
   refine ⟨fun _=>(by (with_reducible repeat (first|apply Kd.R_alloc|apply Kd.R_drewN|apply Kd.R_drew));exact Kd.R_mono (Kd.R_far (p:=⟨gb357,2,none⟩) (Kd.R_far (p:=⟨gb357,1,none⟩) (Kd.R_far (p:=⟨gb357,0,none⟩) (Kd.R_types HO351.out BK357.out (by decide)) (fun _ hk=>hk.2) (.int .i64 t352)) (fun _ hk=>hk.2) (.int .i64 t353)) (fun _ hk=>hk.2) (.int .i64 t354)) (fun _ hk=>trivial)),?_⟩
   refine ⟨fun _ h1_=>absurd ((hon 11 zk).symm.trans h1_) (by decide),?_⟩
   refine ⟨fun _=>GW356.out,?_⟩
   refine ⟨fun _=>GE356.out,?_⟩
   refine ⟨fun _=>NB285_356.out,?_⟩
   refine ⟨fun _=>NB356_285.out,?_⟩
   refine ⟨fun _ h1_=>absurd ((up_self b 12).symm.trans h1_) (by decide),?_⟩
   refine ⟨fun _=>GW357.out,?_⟩
   refine ⟨fun _=>GE357.out,?_⟩
   refine ⟨fun _=>NB285_357.out,?_⟩
   refine ⟨fun _=>NB357_285.out,?_⟩
   refine ⟨fun _=>(zB BK356),?_⟩
   refine ⟨fun _=>(zB BK357),?_⟩
   refine ⟨Q_X0_,?_⟩
   refine ⟨Q_X1_,?_⟩
   refine ⟨Q_X4_,?_⟩
   refine ⟨Q_X5_,?_⟩
   refine ⟨Q_X6_,?_⟩
   refine ⟨Q_X9_,?_⟩
   exact Q_X10_
  refine steps_cons ?_ ?_
  ·rintro b a w' ⟨v321,v326,v334,v339,v346,v350,gb356,gb357,m0_,m1_,m4_,m5_,m6_,m9_,m10_,ha,Q_HO318,Q_BK285,Q_HB,Q_NB357_356,Q_NB356_357,Q_HO322,Q_HO327,Q_HO322_e1,Q_HO327_e1,Q_HO335,Q_HO340,Q_HO347,Q_HO351,Q_BK356,Q_GW356,Q_GE356,Q_NB285_356,Q_NB356_285,Q_BK357,Q_GW357,Q_GE357,Q_NB285_357,Q_NB357_285,Q_BK356_e11,Q_BK357_e12,Q_X0_,Q_X1_,Q_X4_,Q_X5_,Q_X6_,Q_X9_,Q_X10_⟩ hb_ hon hoff
   refine ⟨_,rfl,fun K hK=>?_⟩
   have e27 : a.tmps[27]?=some (.int .i64 t355):=by rw [ha];exact putSel_on (e:=(8,27,.int .i64 t355)) 8 rfl rfl (hon 8 zk) rfl
   replace ha:=Aside0.mk ha
   have HO318:=Aside0.mk Q_HO318
   have BK285:=Aside0.mk Q_BK285
   have HB:=Aside0.mk Q_HB
   have NB357_356:=Aside0.mk (Q_NB357_356 (hon 9 zk) (hon 10 zk))
   have NB356_357:=Aside0.mk (Q_NB356_357 (hon 9 zk) (hon 10 zk))
   have HO351:=Aside0.mk (Q_HO351 (hon 4 zk))
   have GW356:=Aside0.mk (Q_GW356 (hon 9 zk))
   have GE356:=Aside0.mk (Q_GE356 (hon 9 zk))
   have NB285_356:=Aside0.mk (Q_NB285_356 (hon 9 zk))
   have NB356_285:=Aside0.mk (Q_NB356_285 (hon 9 zk))
   have GW357:=Aside0.mk (Q_GW357 (hon 10 zk))
   have GE357:=Aside0.mk (Q_GE357 (hon 10 zk))
   have NB285_357:=Aside0.mk (Q_NB285_357 (hon 10 zk))
   have NB357_285:=Aside0.mk (Q_NB357_285 (hon 10 zk))
   have BK356:=Aside0.mk (Q_BK356_e11 (hon 11 zk))
   have BK357:=Aside0.mk (Q_BK357_e12 (hon 12 zk))
   refine value_ (w1:=w') (v:=.int .i64 t355) (by rfl) rfl ?_ ?_
   ·go_simp
    (try simp only [i64_w])
    try rfl
   refine hK.out _ _ ?_
   refine ⟨v321,?_⟩
   refine ⟨v326,?_⟩
   refine ⟨v334,?_⟩
   refine ⟨v339,?_⟩
   refine ⟨v346,?_⟩
   refine ⟨v350,?_⟩
   refine ⟨gb356,?_⟩
   refine ⟨gb357,?_⟩
   refine ⟨m0_,?_⟩
   refine ⟨m1_,?_⟩
   refine ⟨m4_,?_⟩
   refine ⟨m5_,?_⟩
   refine ⟨m6_,?_⟩
   refine ⟨m9_,?_⟩
   refine ⟨m10_,?_⟩
   refine ⟨(by rw [ha.out];exact putSel_upk 11 hb_ rfl rfl rfl),?_⟩
   refine ⟨Q_HO318,?_⟩
   refine ⟨Q_BK285,?_⟩
   refine ⟨Q_HB,?_⟩
   refine ⟨Q_NB357_356,?_⟩
   refine ⟨Q_NB356_357,?_⟩
   refine ⟨fun _ h1_=>absurd ((hon 1 zk).symm.trans h1_) (by decide),?_⟩
   refine ⟨fun _ h1_=>absurd ((hon 1 zk).symm.trans h1_) (by decide),?_⟩
   refine ⟨fun _ h1_=>absurd ((hon 2 zk).symm.trans h1_) (by decide),?_⟩
   refine ⟨fun _ h1_=>absurd ((hon 2 zk).symm.trans h1_) (by decide),?_⟩
   refine ⟨fun _ h1_=>absurd ((hon 2 zk).symm.trans h1_) (by decide),?_⟩
   refine ⟨fun _ h1_=>absurd ((hon 2 zk).symm.trans h1_) (by decide),?_⟩
   refine ⟨fun _ h1_=>absurd ((hon 4 zk).symm.trans h1_) (by decide),?_⟩
   refine ⟨Q_HO351,?_⟩
   refine ⟨fun _ h1_=>absurd ((hon 11 zk).symm.trans h1_) (by decide),?_⟩
   refine ⟨Q_GW356,?_⟩
   refine ⟨Q_GE356,?_⟩
   refine ⟨Q_NB285_356,?_⟩
   refine ⟨Q_NB356_285,?_⟩
   refine ⟨fun _ h1_=>absurd ((hon 12 zk).symm.trans h1_) (by decide),?_⟩
   refine ⟨Q_GW357,?_⟩
   refine ⟨Q_GE357,?_⟩
   refine ⟨Q_NB285_357,?_⟩
   refine ⟨Q_NB357_285,?_⟩
   refine ⟨Q_BK356_e11,?_⟩
   refine ⟨Q_BK357_e12,?_⟩
   refine ⟨Q_X0_,?_⟩
   refine ⟨Q_X1_,?_⟩
   refine ⟨Q_X4_,?_⟩
   refine ⟨Q_X5_,?_⟩
   refine ⟨Q_X6_,?_⟩
   refine ⟨Q_X9_,?_⟩
   exact Q_X10_
  exact steps_nil
 rintro b a w48 hall ⟨v321,v326,v334,v339,v346,v350,gb356,gb357,m0_,m1_,m4_,m5_,m6_,m9_,m10_,ha,Q_HO318,Q_BK285,Q_HB,Q_NB357_356,Q_NB356_357,Q_HO322,Q_HO327,Q_HO322_e1,Q_HO327_e1,Q_HO335,Q_HO340,Q_HO347,Q_HO351,Q_BK356,Q_GW356,Q_GE356,Q_NB285_356,Q_NB356_285,Q_BK357,Q_GW357,Q_GE357,Q_NB285_357,Q_NB357_285,Q_BK356_e11,Q_BK357_e12,Q_X0_,Q_X1_,Q_X4_,Q_X5_,Q_X6_,Q_X9_,Q_X10_⟩
 clear BK285 HB HO318
 have hb0_:=hall 0 zk
 have hb1_:=hall 1 zk
 have hb2_:=hall 2 zk
 have hb3_:=hall 3 zk
 have hb4_:=hall 4 zk
 have hb5_:=hall 5 zk
 have hb6_:=hall 6 zk
 have hb7_:=hall 7 zk
 have hb8_:=hall 8 zk
 have hb9_:=hall 9 zk
 have hb10_:=hall 10 zk
 have hb11_:=hall 11 zk
 have hb12_:=hall 12 zk
 have hb13_:=hall 13 zk
 subst ha
 obtain rfl:=Q_X0_ hb0_
 obtain rfl:=Q_X1_ hb1_
 obtain rfl:=Q_X4_ hb4_
 obtain rfl:=Q_X5_ hb5_
 obtain rfl:=Q_X6_ hb6_
 obtain rfl:=Q_X9_ hb9_
 obtain rfl:=Q_X10_ hb10_
 simp only [putSel,hb0_,hb1_,hb2_,hb3_,hb4_,hb5_,hb6_,hb7_,hb8_,hb9_,hb10_,hb11_,hb12_,hb13_,if_true,Act.put,List.setIfInBounds_toArray,List.set_cons_zero,List.set_cons_succ]
 have HO318:=Aside0.mk Q_HO318
 clear Q_HO318
 have BK285:=Aside0.mk Q_BK285
 clear Q_BK285
 have HB:=Aside0.mk Q_HB
 clear Q_HB
 have NB357_356:=Aside0.mk (Q_NB357_356 hb9_ hb10_)
 clear Q_NB357_356
 have NB356_357:=Aside0.mk (Q_NB356_357 hb9_ hb10_)
 clear Q_NB356_357
 clear Q_HO322
 clear Q_HO327
 clear Q_HO322_e1
 clear Q_HO327_e1
 clear Q_HO335
 clear Q_HO340
 clear Q_HO347
 have HO351:=Aside0.mk (Q_HO351 hb4_)
 clear Q_HO351
 clear Q_BK356
 have GW356:=Aside0.mk (Q_GW356 hb9_)
 clear Q_GW356
 have GE356:=Aside0.mk (Q_GE356 hb9_)
 clear Q_GE356
 have NB285_356:=Aside0.mk (Q_NB285_356 hb9_)
 clear Q_NB285_356
 have NB356_285:=Aside0.mk (Q_NB356_285 hb9_)
 clear Q_NB356_285
 clear Q_BK357
 have GW357:=Aside0.mk (Q_GW357 hb10_)
 clear Q_GW357
 have GE357:=Aside0.mk (Q_GE357 hb10_)
 clear Q_GE357
 have NB285_357:=Aside0.mk (Q_NB285_357 hb10_)
 clear Q_NB285_357
 have NB357_285:=Aside0.mk (Q_NB357_285 hb10_)
 clear Q_NB357_285
 have BK356:=Aside0.mk (Q_BK356_e11 hb11_)
 clear Q_BK356_e11
 have BK357:=Aside0.mk (Q_BK357_e12 hb12_)
 clear Q_BK357_e12
 clear hall hb0_ hb1_ hb2_ hb3_ hb4_ hb5_ hb6_ hb7_ hb8_ hb9_ hb10_ hb11_ hb12_ hb13_
 obtain ⟨Ao49,co49,eo49⟩:=Kd.R_slice HO318.out
 subst eo49
 have p358 : 0≤(0 : Int):=(by omega)
 have q358 : 0<(t315.length : Int):=zD
 obtain ⟨ad358,e358,hx358_0⟩:=Kd.at_int (Kd.R_reads' HO318.out).2.2 0 p358 q358
 cases e358
 have qi358 : (0<t315.length)=True:=eq_true (by omega)
 (try rw [show ((0 : Int)).toNat=0 from rfl] at hx358_0)
 (try rw [Addr.add_zero'] at hx358_0)
 replace p358:=eq_true p358
 replace q358:=eq_true q358
 have hnb50:=NB356_285.out
 have hnc50:=NB285_356.out
 have hnb51:=NB356_357.out
 have hnc51:=NB357_356.out
 have hcz52_0:=zc BK356 0 (.int .i64 t348) rfl
 have hcz52_1:=zc BK356 1 (v350) rfl
 have hfz52_0:=blk_frozen BK356.out 0
 have hfz52_1:=blk_frozen BK356.out 1
 obtain ⟨Ao53,co53,eo53⟩:=Kd.R_slice HO351.out
 subst eo53
 have p359 : 0≤(0 : Int):=(by omega)
 have q359 : 0<(t349.length : Int):=zD
 obtain ⟨ad359,e359,hx359_0⟩:=Kd.at_int (Kd.R_reads' HO351.out).2.2 0 p359 q359
 cases e359
 have qi359 : (0<t349.length)=True:=eq_true (by omega)
 (try rw [show ((0 : Int)).toNat=0 from rfl] at hx359_0)
 (try rw [Addr.add_zero'] at hx359_0)
 replace p359:=eq_true p359
 replace q359:=eq_true q359
 have hnb54:=NB357_285.out
 have hnc54:=NB285_357.out
 have hcz55_0:=zc BK357 0 (.int .i64 t352) rfl
 have hcz55_1:=zc BK357 1 (.int .i64 t353) rfl
 have hcz55_2:=zc BK357 2 (.int .i64 t354) rfl
 have hfz55_0:=blk_frozen BK357.out 0
 have hfz55_1:=blk_frozen BK357.out 1
 have hfz55_2:=blk_frozen BK357.out 2
 try go_wp2
 go_ret
 exact ⟨zX,zW HB⟩

end Go.Proofs.Ytcnmemcclhahnaa.QT
