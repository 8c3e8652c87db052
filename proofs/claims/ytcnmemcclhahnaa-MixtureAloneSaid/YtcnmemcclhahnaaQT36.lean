-- Written by a program of this session, out of the seat's translation; checked by the kernel alone.
import Derived.Test.YtcnmemcclhahnaaQT0
import Derived.Test.YtcnmemcclhahnaaQT7
import Derived.Test.YtcnmemcclhahnaaQT9
import Derived.Test.YtcnmemcclhahnaaQT10
import Derived.Test.YtcnmemcclhahnaaQT11
import Derived.Test.YtcnmemcclhahnaaQT12
import Derived.Test.YtcnmemcclhahnaaQT15
import Derived.Test.YtcnmemcclhahnaaQT26
namespace Go.Proofs.Ytcnmemcclhahnaa.QT
open Go.RowKit Go.Proofs.YtcnmemcclhahnaaW.PrintWords Go.Proofs.YtcnmemcclhahnaaW.PrintLast Go.Proofs.YtcnmemcclhahnaaW.PrintMore
attribute [local go_sem] max2_int min2_int max_two min_two max_three min_three max_four min_four   -- for this text's walks alone
set_option linter.unusedVariables false
set_option linter.unusedSimpArgs false

mutual
def soundservicelaw23_MixtureAlone.l0 : Nat→Int→Int→Int→Int→List Int→Int→List Int→Int→Int→List Int→Int→Int→Int→Int→Option (Bool)
 | 0,_,_,_,_,_,_,_,_,_,_,_,_,_,_=>none
 | k+1,x4,x5,x55,x56,x482000,x499000,x499001,x499002,x499003,x499004,x499005,x499006,x499007,x499008=>if x56<x55 then (if 0≤x56 then (if x56<(x499001.length : Int) then (soundservicelaw23_MixtureAlone.l0 k x4 x5 x55 (wrap64 (x56+1)) x482000 x499000 (x499001.set (x56 : Int).toNat (mx (rd x499001 x56) (-8388607))) x499002 x499003 x499004 x499005 x499006 x499007 x499008) else (none)) else (none)) else ((soundserviceref08_New.f 8388607 1).bind fun bt501=>((mixture_Mix.f k x4 x5 (([(⟨(⟨x499000,x499001⟩ : S43),(⟨x499002,x499003,x499004⟩ : S50),(⟨x499005,x499006,x499007,x499008⟩ : S52)⟩ : S54)] : List (S54))) bt501.1 bt501.2.1 bt501.2.2.1).bind fun bt509=>((soundservicelaw23_made.f k x482000 x4 x5).bind fun bt519=>((soundservicelaw23_made.f k bt519.2 x4 x5).bind fun bt523=>((mixture_Sum.f k x4 x5 bt519.1).bind fun bt527=>((mixture_Sum.f k x4 x5 bt523.1).bind fun bt531=>(if ([] : List (S54)).length+bt519.1.length<1353245080339 then ((some (([] : List (S54)) ++ bt519.1 : List (S54))).bind fun y535=>(if y535.length+bt523.1.length<1353245080339 then ((mixture_Sum.f k x4 x5 (y535 ++ bt523.1)).bind fun bt541=>(if bt509.2.2.2.2.2=0 then ((soundserviceref04_Same.f k bt509.1 bt509.2.1 x499000 x499001).bind fun t545=>(if t545=true then (if bt527.2=0 then (if bt531.2=0 then (if bt541.2=0 then (if (bt527.1.length : Int)=(wrap64 (x4*x5)) then (if (bt531.1.length : Int)=(wrap64 (x4*x5)) then (soundservicelaw23_MixtureAlone.j1 k x4 x5 bt519.1 bt527.1 bt531.1 bt541.1 ((bt541.1.length : Int) != (wrap64 (x4*x5))) bt523.2) else (soundservicelaw23_MixtureAlone.j1 k x4 x5 bt519.1 bt527.1 bt531.1 bt541.1 true bt523.2)) else (soundservicelaw23_MixtureAlone.j1 k x4 x5 bt519.1 bt527.1 bt531.1 bt541.1 true bt523.2)) else (soundservicelaw23_MixtureAlone.j1 k x4 x5 bt519.1 bt527.1 bt531.1 bt541.1 true bt523.2)) else (soundservicelaw23_MixtureAlone.j1 k x4 x5 bt519.1 bt527.1 bt531.1 bt541.1 true bt523.2)) else (soundservicelaw23_MixtureAlone.j1 k x4 x5 bt519.1 bt527.1 bt531.1 bt541.1 true bt523.2)) else (soundservicelaw23_MixtureAlone.j1 k x4 x5 bt519.1 bt527.1 bt531.1 bt541.1 true bt523.2))) else (soundservicelaw23_MixtureAlone.j1 k x4 x5 bt519.1 bt527.1 bt531.1 bt541.1 true bt523.2))) else (none))) else (none))))))))
def soundservicelaw23_MixtureAlone.j1 : Nat→Int→Int→List (S54)→List Int→List Int→List Int→Bool→List Int→Option (Bool)
 | 0,_,_,_,_,_,_,_,_=>none
 | k+1,x4,x5,x16,x18,x20,x22,x159,x482000=>if x159=true then (some false) else (soundservicelaw23_MixtureAlone.l1 k x4 x5 x16 x18 x20 x22 (x22.length : Int) 0 x482000)
def soundservicelaw23_MixtureAlone.l1 : Nat→Int→Int→List (S54)→List Int→List Int→List Int→Int→Int→List Int→Option (Bool)
 | 0,_,_,_,_,_,_,_,_,_=>none
 | k+1,x4,x5,x16,x18,x20,x160,x161,x162,x482000=>if x162<x161 then (if 0≤x162 then (if x162<(x160.length : Int) then (if x162<(x18.length : Int) then (if x162<(x20.length : Int) then (if (rd x160 x162)=(wrap64 ((rd x18 x162)+(rd x20 x162))) then (soundservicelaw23_MixtureAlone.l1 k x4 x5 x16 x18 x20 x160 x161 (wrap64 (x162+1)) x482000) else (some false)) else (none)) else (none)) else (none)) else (none)) else ((soundservicelaw23_limit.f x482000).bind fun bt549=>((mixture_Mix.f k x4 x5 x16 bt549.1 bt549.2.1 bt549.2.2.1).bind fun bt554=>(soundservicelaw23_MixtureAlone.l2 k x4 x5 bt554.2.2.2.2.2 (bt554.2.1.length : Int) 0 bt549.1 bt549.2.1 bt549.2.2.1 bt554.1 bt554.2.1)))
def soundservicelaw23_MixtureAlone.l2 : Nat→Int→Int→Int→Int→Int→Int→Int→Int→Int→List Int→Option (Bool)
 | 0,_,_,_,_,_,_,_,_,_,_=>none
 | k+1,x4,x5,x28,x193,x194,x554000,x554001,x554002,x563000,x563001=>if x194<x193 then (if 0≤x194 then (if x194<(x563001.length : Int) then (if (wrap64 (rd x563001 x194))>x554000 then (some false) else (if (wrap64 (wrap32 (-(rd x563001 x194))))>x554000 then (some false) else (soundservicelaw23_MixtureAlone.l2 k x4 x5 x28 x193 (wrap64 (x194+1)) x554000 x554001 x554002 x563000 x563001))) else (none)) else (none)) else (if x28=0 then (some ((x563001.length : Int) == (wrap64 (x4*x5)))) else (some false))
end
def soundservicelaw23_MixtureAlone.f (k : Nat) (l0 : List Int) : Option (Bool):=(soundservicelaw23_sane.f k).bind fun t479=>(if t479=true then ((soundservicemade_New.f l0).bind fun t480=>((soundservicemade_Dice_Next.f t480 3).bind fun bt482=>((soundservicemade_Dice_Next.f bt482.2 8).bind fun bt484=>((soundserviceref07_Identity.f k (wrap64 (1+bt482.1))).bind fun bt486=>((soundservicemade_Block.f k bt484.2 (wrap64 (1+bt482.1)) bt484.1).bind fun bt493=>(soundservicelaw23_MixtureAlone.l0 k (wrap64 (1+bt482.1)) bt484.1 (bt493.2.1.length : Int) 0 bt493.2.2 bt493.1 bt493.2.1 bt486.1 bt486.2.1 bt486.2.2.1 65536 65536 0 0)))))) else (some false))
theorem soundservicelaw23_MixtureAlone.mono_l : ∀ k,(∀ y0 y1 y2 y3 y4 y5 y6 y7 y8 y9 y10 y11 y12 y13,LeO (soundservicelaw23_MixtureAlone.l0 k y0 y1 y2 y3 y4 y5 y6 y7 y8 y9 y10 y11 y12 y13) (soundservicelaw23_MixtureAlone.l0 (k+1) y0 y1 y2 y3 y4 y5 y6 y7 y8 y9 y10 y11 y12 y13))∧(∀ y0 y1 y2 y3 y4 y5 y6 y7,LeO (soundservicelaw23_MixtureAlone.j1 k y0 y1 y2 y3 y4 y5 y6 y7) (soundservicelaw23_MixtureAlone.j1 (k+1) y0 y1 y2 y3 y4 y5 y6 y7))∧(∀ y0 y1 y2 y3 y4 y5 y6 y7 y8,LeO (soundservicelaw23_MixtureAlone.l1 k y0 y1 y2 y3 y4 y5 y6 y7 y8) (soundservicelaw23_MixtureAlone.l1 (k+1) y0 y1 y2 y3 y4 y5 y6 y7 y8))∧(∀ y0 y1 y2 y3 y4 y5 y6 y7 y8 y9,LeO (soundservicelaw23_MixtureAlone.l2 k y0 y1 y2 y3 y4 y5 y6 y7 y8 y9) (soundservicelaw23_MixtureAlone.l2 (k+1) y0 y1 y2 y3 y4 y5 y6 y7 y8 y9))
 | 0=>⟨fun _ _ _ _ _ _ _ _ _ _ _ _ _ _ r h=>by simp [soundservicelaw23_MixtureAlone.l0] at h,fun _ _ _ _ _ _ _ _ r h=>by simp [soundservicelaw23_MixtureAlone.j1] at h,fun _ _ _ _ _ _ _ _ _ r h=>by simp [soundservicelaw23_MixtureAlone.l1] at h,fun _ _ _ _ _ _ _ _ _ _ r h=>by simp [soundservicelaw23_MixtureAlone.l2] at h⟩
 | k+1=>by
  obtain ⟨ih0,ih1,ih2,ih3⟩:=soundservicelaw23_MixtureAlone.mono_l k;refine ⟨?_,?_,?_,?_⟩
  ·intro y0 y1 y2 y3 y4 y5 y6 y7 y8 y9 y10 y11 y12 y13;unfold soundservicelaw23_MixtureAlone.l0
   repeat' first
   | (with_reducible exact ih0 _ _ _ _ _ _ _ _ _ _ _ _ _ _)
   | (with_reducible exact ih1 _ _ _ _ _ _ _ _)
   | (with_reducible exact ih2 _ _ _ _ _ _ _ _ _)
   | (with_reducible exact ih3 _ _ _ _ _ _ _ _ _ _)
   | (with_reducible exact mixture_Mix.mono _ _ _ _ _ _ _)
   | (with_reducible exact mixture_Sum.mono _ _ _ _)
   | (with_reducible exact soundservicelaw23_made.mono _ _ _ _)
   | (with_reducible exact soundservicelaw23_sane.mono _)
   | (with_reducible exact soundservicemade_Block.mono _ _ _ _)
   | (with_reducible exact soundserviceref04_Same.mono _ _ _ _ _)
   | (with_reducible exact soundserviceref07_Identity.mono _ _)
   | (with_reducible exact LeO.refl _)
   | (with_reducible exact LeO.none _)
   | (with_reducible refine LeO.ite ?_ ?_)
   | (with_reducible refine LeO.bind ?_ (fun _=>?_))
   | exact ih0 _ _ _ _ _ _ _ _ _ _ _ _ _ _
   | exact ih1 _ _ _ _ _ _ _ _
   | exact ih2 _ _ _ _ _ _ _ _ _
   | exact ih3 _ _ _ _ _ _ _ _ _ _
   | exact mixture_Mix.mono _ _ _ _ _ _ _
   | exact mixture_Sum.mono _ _ _ _
   | exact soundservicelaw23_made.mono _ _ _ _
   | exact soundservicelaw23_sane.mono _
   | exact soundservicemade_Block.mono _ _ _ _
   | exact soundserviceref04_Same.mono _ _ _ _ _
   | exact soundserviceref07_Identity.mono _ _
   | exact LeO.none _
   | refine LeO.ite ?_ ?_
   | refine LeO.bind ?_ (fun _=>?_)
  ·intro y0 y1 y2 y3 y4 y5 y6 y7;unfold soundservicelaw23_MixtureAlone.j1
   repeat' first
   | (with_reducible exact ih0 _ _ _ _ _ _ _ _ _ _ _ _ _ _)
   | (with_reducible exact ih1 _ _ _ _ _ _ _ _)
   | (with_reducible exact ih2 _ _ _ _ _ _ _ _ _)
   | (with_reducible exact ih3 _ _ _ _ _ _ _ _ _ _)
   | (with_reducible exact mixture_Mix.mono _ _ _ _ _ _ _)
   | (with_reducible exact mixture_Sum.mono _ _ _ _)
   | (with_reducible exact soundservicelaw23_made.mono _ _ _ _)
   | (with_reducible exact soundservicelaw23_sane.mono _)
   | (with_reducible exact soundservicemade_Block.mono _ _ _ _)
   | (with_reducible exact soundserviceref04_Same.mono _ _ _ _ _)
   | (with_reducible exact soundserviceref07_Identity.mono _ _)
   | (with_reducible exact LeO.refl _)
   | (with_reducible exact LeO.none _)
   | (with_reducible refine LeO.ite ?_ ?_)
   | (with_reducible refine LeO.bind ?_ (fun _=>?_))
   | exact ih0 _ _ _ _ _ _ _ _ _ _ _ _ _ _
   | exact ih1 _ _ _ _ _ _ _ _
   | exact ih2 _ _ _ _ _ _ _ _ _
   | exact ih3 _ _ _ _ _ _ _ _ _ _
   | exact mixture_Mix.mono _ _ _ _ _ _ _
   | exact mixture_Sum.mono _ _ _ _
   | exact soundservicelaw23_made.mono _ _ _ _
   | exact soundservicelaw23_sane.mono _
   | exact soundservicemade_Block.mono _ _ _ _
   | exact soundserviceref04_Same.mono _ _ _ _ _
   | exact soundserviceref07_Identity.mono _ _
   | exact LeO.none _
   | refine LeO.ite ?_ ?_
   | refine LeO.bind ?_ (fun _=>?_)
  ·intro y0 y1 y2 y3 y4 y5 y6 y7 y8;unfold soundservicelaw23_MixtureAlone.l1
   repeat' first
   | (with_reducible exact ih0 _ _ _ _ _ _ _ _ _ _ _ _ _ _)
   | (with_reducible exact ih1 _ _ _ _ _ _ _ _)
   | (with_reducible exact ih2 _ _ _ _ _ _ _ _ _)
   | (with_reducible exact ih3 _ _ _ _ _ _ _ _ _ _)
   | (with_reducible exact mixture_Mix.mono _ _ _ _ _ _ _)
   | (with_reducible exact mixture_Sum.mono _ _ _ _)
   | (with_reducible exact soundservicelaw23_made.mono _ _ _ _)
   | (with_reducible exact soundservicelaw23_sane.mono _)
   | (with_reducible exact soundservicemade_Block.mono _ _ _ _)
   | (with_reducible exact soundserviceref04_Same.mono _ _ _ _ _)
   | (with_reducible exact soundserviceref07_Identity.mono _ _)
   | (with_reducible exact LeO.refl _)
   | (with_reducible exact LeO.none _)
   | (with_reducible refine LeO.ite ?_ ?_)
   | (with_reducible refine LeO.bind ?_ (fun _=>?_))
   | exact ih0 _ _ _ _ _ _ _ _ _ _ _ _ _ _
   | exact ih1 _ _ _ _ _ _ _ _
   | exact ih2 _ _ _ _ _ _ _ _ _
   | exact ih3 _ _ _ _ _ _ _ _ _ _
   | exact mixture_Mix.mono _ _ _ _ _ _ _
   | exact mixture_Sum.mono _ _ _ _
   | exact soundservicelaw23_made.mono _ _ _ _
   | exact soundservicelaw23_sane.mono _
   | exact soundservicemade_Block.mono _ _ _ _
   | exact soundserviceref04_Same.mono _ _ _ _ _
   | exact soundserviceref07_Identity.mono _ _
   | exact LeO.none _
   | refine LeO.ite ?_ ?_
   | refine LeO.bind ?_ (fun _=>?_)
  ·intro y0 y1 y2 y3 y4 y5 y6 y7 y8 y9;unfold soundservicelaw23_MixtureAlone.l2
   repeat' first
   | (with_reducible exact ih0 _ _ _ _ _ _ _ _ _ _ _ _ _ _)
   | (with_reducible exact ih1 _ _ _ _ _ _ _ _)
   | (with_reducible exact ih2 _ _ _ _ _ _ _ _ _)
   | (with_reducible exact ih3 _ _ _ _ _ _ _ _ _ _)
   | (with_reducible exact mixture_Mix.mono _ _ _ _ _ _ _)
   | (with_reducible exact mixture_Sum.mono _ _ _ _)
   | (with_reducible exact soundservicelaw23_made.mono _ _ _ _)
   | (with_reducible exact soundservicelaw23_sane.mono _)
   | (with_reducible exact soundservicemade_Block.mono _ _ _ _)
   | (with_reducible exact soundserviceref04_Same.mono _ _ _ _ _)
   | (with_reducible exact soundserviceref07_Identity.mono _ _)
   | (with_reducible exact LeO.refl _)
   | (with_reducible exact LeO.none _)
   | (with_reducible refine LeO.ite ?_ ?_)
   | (with_reducible refine LeO.bind ?_ (fun _=>?_))
   | exact ih0 _ _ _ _ _ _ _ _ _ _ _ _ _ _
   | exact ih1 _ _ _ _ _ _ _ _
   | exact ih2 _ _ _ _ _ _ _ _ _
   | exact ih3 _ _ _ _ _ _ _ _ _ _
   | exact mixture_Mix.mono _ _ _ _ _ _ _
   | exact mixture_Sum.mono _ _ _ _
   | exact soundservicelaw23_made.mono _ _ _ _
   | exact soundservicelaw23_sane.mono _
   | exact soundservicemade_Block.mono _ _ _ _
   | exact soundserviceref04_Same.mono _ _ _ _ _
   | exact soundserviceref07_Identity.mono _ _
   | exact LeO.none _
   | refine LeO.ite ?_ ?_
   | refine LeO.bind ?_ (fun _=>?_)
theorem soundservicelaw23_MixtureAlone.mono : ∀ a0 k,LeO (soundservicelaw23_MixtureAlone.f k a0) (soundservicelaw23_MixtureAlone.f (k+1) a0):=by
 intro a0 k;obtain ⟨ih0,ih1,ih2,ih3⟩:=soundservicelaw23_MixtureAlone.mono_l k;unfold soundservicelaw23_MixtureAlone.f
 repeat' first
   | (with_reducible exact ih0 _ _ _ _ _ _ _ _ _ _ _ _ _ _)
   | (with_reducible exact ih1 _ _ _ _ _ _ _ _)
   | (with_reducible exact ih2 _ _ _ _ _ _ _ _ _)
   | (with_reducible exact ih3 _ _ _ _ _ _ _ _ _ _)
   | (with_reducible exact mixture_Mix.mono _ _ _ _ _ _ _)
   | (with_reducible exact mixture_Sum.mono _ _ _ _)
   | (with_reducible exact soundservicelaw23_made.mono _ _ _ _)
   | (with_reducible exact soundservicelaw23_sane.mono _)
   | (with_reducible exact soundservicemade_Block.mono _ _ _ _)
   | (with_reducible exact soundserviceref04_Same.mono _ _ _ _ _)
   | (with_reducible exact soundserviceref07_Identity.mono _ _)
   | (with_reducible exact LeO.refl _)
   | (with_reducible exact LeO.none _)
   | (with_reducible refine LeO.ite ?_ ?_)
   | (with_reducible refine LeO.bind ?_ (fun _=>?_))
   | exact ih0 _ _ _ _ _ _ _ _ _ _ _ _ _ _
   | exact ih1 _ _ _ _ _ _ _ _
   | exact ih2 _ _ _ _ _ _ _ _ _
   | exact ih3 _ _ _ _ _ _ _ _ _ _
   | exact mixture_Mix.mono _ _ _ _ _ _ _
   | exact mixture_Sum.mono _ _ _ _
   | exact soundservicelaw23_made.mono _ _ _ _
   | exact soundservicelaw23_sane.mono _
   | exact soundservicemade_Block.mono _ _ _ _
   | exact soundserviceref04_Same.mono _ _ _ _ _
   | exact soundserviceref07_Identity.mono _ _
   | exact LeO.none _
   | refine LeO.ite ?_ ?_
   | refine LeO.bind ?_ (fun _=>?_)
def soundservicelaw23_MixtureAlone.T6 : Bool×List (List Nat×List Nat):=(true,[([],[]),([],[]),([],[]),([0,1,2],[0,1,2]),([],[]),([],[]),([3,4,5],[3,4,5]),([],[]),([7,6,3,0,1,2,3,4,5,6,7],[6,7])])
def soundservicelaw23_MixtureAlone.B6 : List Nat:=[0,0,0,7,0,0,63,0,255]
theorem soundservicelaw23_MixtureAlone.tab6 : rtab .any (opsOf Try.f6 6)=soundservicelaw23_MixtureAlone.T6:=by kernel_rfl
theorem soundservicelaw23_MixtureAlone.bits6 : waitsOk soundservicelaw23_MixtureAlone.T6.2 soundservicelaw23_MixtureAlone.B6=true:=by kernel_rfl
def soundservicelaw23_MixtureAlone.T23 : Bool×List (List Nat×List Nat):=(true,[([],[]),([],[]),([0,1],[0,1]),([2],[2]),([],[]),([],[]),([4,5],[4,5]),([6],[6]),([],[]),([],[]),([8,9],[8,9]),([10],[10]),([7,11],[7,11]),([3,12],[3,12])])
def soundservicelaw23_MixtureAlone.B23 : List Nat:=[0,0,3,7,0,0,48,112,0,0,768,1792,4080,8191]
theorem soundservicelaw23_MixtureAlone.tab23 : rtab .any (opsOf Try.f6 23)=soundservicelaw23_MixtureAlone.T23:=by kernel_rfl
theorem soundservicelaw23_MixtureAlone.bits23 : waitsOk soundservicelaw23_MixtureAlone.T23.2 soundservicelaw23_MixtureAlone.B23=true:=by kernel_rfl
set_option maxHeartbeats 8000000 in
set_option maxRecDepth 100000 in
theorem soundservicelaw23_MixtureAlone.calls (k : Nat) (A0 : Option Addr) (c0 : Nat) (l0 : List Int) (r : Bool) (w : World) (hr0 : Kd.C (Kd.int .u8) w A0 l0.length l0) (hc0 : l0.length≤c0) (hr_ : r=true) (h : soundservicelaw23_MixtureAlone.f k l0=some r) :
  Calls Try.prog 6 #[.slice A0 l0.length c0] w fun e w'=>e = .returned (.bool r)∧Below w.heap.size w w':=by
 have hu50:=Try.underlying50;have hu52:=Try.underlying52;have hu54:=Try.underlying54;have hu24:=Try.underlying24;have hu43:=Try.underlying43;have HR_:=zo hr_;clear hr_;have HR0:=zo hr0;have HC0:=zo hc0;clear hr0 hc0;have HB:=zo (Below.refl w.heap.size w);have H:=h;unfold soundservicelaw23_MixtureAlone.f at H;clear h;replace H:=Option.bind_eq_some_iff.mp H;obtain ⟨t479,A20,H⟩:=H
 try dsimp only at H
 have A2:=zo A20;clear A20
 by_cases c3 : t479=true
 rotate_left
 ·replace c3:=Bool.eq_false_iff.mpr c3;subst c3;have H1:=H;rw [if_neg (show ¬ (false=true) by decide)] at H1;clear H;have H:=H1;clear H1;exact absurd (H.trans (congrArg some HR_.out)) (by simp)
 subst c3;have H1:=H;rw [if_pos rfl] at H1;clear H;have H:=H1;clear H1;replace H:=Option.bind_eq_some_iff.mp H;obtain ⟨t480,A40,H⟩:=H
 try dsimp only at H
 have A4:=zo A40;clear A40;replace H:=Option.bind_eq_some_iff.mp H;obtain ⟨⟨t482,t483⟩,A50,H⟩:=H
 try dsimp only at H
 have A5:=zo A50;clear A50;replace H:=Option.bind_eq_some_iff.mp H;obtain ⟨⟨t484,t485⟩,A60,H⟩:=H
 try dsimp only at H
 have A6:=zo A60;clear A60;replace H:=Option.bind_eq_some_iff.mp H;obtain ⟨⟨t486,t487,t488,t491⟩,A70,H⟩:=H
 try dsimp only at H
 have A7:=zo A70;clear A70;replace H:=Option.bind_eq_some_iff.mp H;obtain ⟨⟨t493,t494,t497⟩,A80,H⟩:=H
 try dsimp only at H
 have A8:=zo A80;clear A80;have H':=zo H;clear H
 go_enter Try.func6,Try.ntmps6
 try go_wp2_with (first|((with_reducible refine gate_callee (f:=8) rfl ?_);refine goesL_ (some 31) rfl rfl Try.func8 zk rfl #[] rfl zA ?_;(with_reducible refine (soundservicelaw23_sane.calls k  true _ rfl A2.out).mono ?_);rintro e w9 ⟨rfl,hb⟩;refine ⟨_,rfl,?_⟩;replace HB:=zo (below_step (zW HB) hb);(try clear hb))|((with_reducible refine gate_callee (f:=10) rfl ?_);refine goesL_ (some 34) rfl rfl Try.func10 zk rfl #[.slice A0 l0.length c0] rfl zA ?_;(with_reducible refine (soundservicemade_New.calls _ _ l0 t480 w _ ?side1 ?side2 ?side3 A4.out).mono ?_);(case side1=>exact zW HB);(case side2=>exact HR0.out);(case side3=>exact HC0.out);rintro e w10 ⟨g481,rfl,hi,hb,hb2,hgw⟩;refine ⟨_,rfl,?_⟩;replace HB:=zo hb;have HI481:=zo hi;(try clear hb))|((with_reducible refine gate_callee (f:=11) rfl ?_);refine goesL_ (some 36) rfl rfl Try.func11 zk rfl #[.pointer (some ⟨g481,0,none⟩),.int .i64 3] rfl zA ?_;(with_reducible refine (soundservicemade_Dice_Next.calls g481 t480 3 t482 t483 w _ ?side1 ?side2 A5.out).mono ?_);(case side1=>exact zJ HI481);(case side2=>exact zI HB HI481);rintro e w11 ⟨rfl,hi,hb,hk⟩;refine ⟨_,rfl,?_⟩;replace HB:=zo hb;replace HI481:=zo hi;(try clear hb);(try clear hk);(try clear hi))|((with_reducible refine gate_callee (f:=11) rfl ?_);refine goesL_ (some 39) rfl rfl Try.func11 zk rfl #[.pointer (some ⟨g481,0,none⟩),.int .i64 8] rfl zA ?_;(with_reducible refine (soundservicemade_Dice_Next.calls g481 t483 8 t484 t485 w _ ?side1 ?side2 A6.out).mono ?_);(case side1=>exact zJ HI481);(case side2=>exact zI HB HI481);rintro e w12 ⟨rfl,hi,hb,hk⟩;refine ⟨_,rfl,?_⟩;replace HB:=zo hb;replace HI481:=zo hi;(try clear hb);(try clear hk);(try clear hi))|((with_reducible refine gate_callee (f:=26) rfl ?_);refine goesL_ (some 42) rfl rfl Try.func26 zk rfl #[.int .i64 (wrap64 (1+t482))] rfl zA ?_;(with_reducible refine (soundserviceref07_Identity.calls k (wrap64 (1+t482)) t486 t487 t488 t491 _ A7.out).mono ?_);rintro e w13 ⟨v489,rfl,ho0,hb⟩;refine ⟨_,rfl,?_⟩;have HO490:=zo (Kd.R_lower ho0 (below_size (zI HB HI481)));replace HB:=zo (below_step (zI HB HI481) hb);replace HI481:=zo (IsS71.below (zJ HI481) hb);(try clear hb);(try clear ho0))|((with_reducible refine gate_dst (N:=6) rfl ?_);(try (refine gate_guard (by rfl) ?_;dsimp only));refine box_event ?hg (N:=6) ?hd (cs:=#[.int .i64 0,.int .i64 0,.slice none 0 0]) (t:=50) ?hr ?_;(case hd=>rfl);(case hg=>rfl);(case hr=>first|(go_simp;done)|(go_simp;rfl));intro gb492 hg w14 hbox hb;replace HO490:=zo (Kd.R_below (zR HO490) hb);have BK492:=zo hbox;have GW492:=zo ((by rw [hg];exact (below_size (zI HB HI481)) : w.heap.size≤gb492));have GE492:=zo ((by rw [hg];exact (below_size (zI HB HI481)) : w.heap.size≤gb492));replace HB:=zo (below_step (zI HB HI481) hb);have NB481_492:=zo ((by rw [hg];exact Nat.ne_of_lt (IsS71.lt (show IsS71 w _ g481 t485 from zJ HI481)) : g481≠gb492));have NB492_481:=zo ((by rw [hg];exact Nat.ne_of_gt (IsS71.lt (show IsS71 w _ g481 t485 from zJ HI481)) : gb492≠g481));replace HI481:=zo (IsS71.below (zJ HI481) hb);clear hb hbox hg;have hnb15:=NB492_481.out;have hnc15:=NB481_492.out;obtain ⟨hcz16_0,hfz16_0,hcz16_1,hfz16_1,hcz16_2,hfz16_2⟩:=zn3 BK492;obtain ⟨Ao17,co17,eo17⟩:=Kd.R_slice HO490.out;subst eo17))
 have n0_ : Aside0 (Kd.R (Kd.int .i64) 3 (((w14.setCell ⟨gb492,0,none⟩ (.int .i64 t486)).setCell ⟨gb492,1,none⟩ (.int .i64 t487)).setCell ⟨gb492,2,none⟩ (.slice Ao17 t488.length co17)) w.heap.size (fun _=>True) (.slice Ao17 t488.length co17) t488):=⟨by (with_reducible repeat (first|apply Kd.R_alloc|apply Kd.R_drewN|apply Kd.R_drew));exact Kd.R_mono (Kd.R_far (p:=⟨gb492,2,none⟩) (Kd.R_far (p:=⟨gb492,1,none⟩) (Kd.R_far (p:=⟨gb492,0,none⟩) (Kd.R_types HO490.out BK492.out (by decide)) (fun _ hk=>hk.2) (.int .i64 t486)) (fun _ hk=>hk.2) (.int .i64 t487)) (fun _ hk=>hk.2) (.slice Ao17 t488.length co17)) (fun _ hk=>trivial)⟩;have n1_ : Aside0 ((((w14.setCell ⟨gb492,0,none⟩ (.int .i64 t486)).setCell ⟨gb492,1,none⟩ (.int .i64 t487)).setCell ⟨gb492,2,none⟩ (.slice Ao17 t488.length co17)).heap[gb492]?=some (.cells #[.int .i64 t486,.int .i64 t487,.slice Ao17 t488.length co17] 50 (0,0))):=⟨zB BK492⟩;have n2_ : Aside0 (IsS71 w (((w14.setCell ⟨gb492,0,none⟩ (.int .i64 t486)).setCell ⟨gb492,1,none⟩ (.int .i64 t487)).setCell ⟨gb492,2,none⟩ (.slice Ao17 t488.length co17)) g481 t485):=⟨zJ HI481⟩;have n3_ : Aside0 (Below w.heap.size w (((w14.setCell ⟨gb492,0,none⟩ (.int .i64 t486)).setCell ⟨gb492,1,none⟩ (.int .i64 t487)).setCell ⟨gb492,2,none⟩ (.slice Ao17 t488.length co17))):=⟨zI HB HI481⟩;(try clear HO490);(try clear BK492);(try clear HI481);(try clear HB);generalize (((w14.setCell ⟨gb492,0,none⟩ (.int .i64 t486)).setCell ⟨gb492,1,none⟩ (.int .i64 t487)).setCell ⟨gb492,2,none⟩ (.slice Ao17 t488.length co17))=w18 at n0_ n1_ n2_ n3_ ⊢;have HO490:=n0_;have BK492:=n1_;have HI481:=n2_;have HB:=n3_;clear n0_ n1_ n2_ n3_;have n0_:=zo (Kd.R_drew HO490.out);have n1_:=zo (blk_drew BK492.out);have n2_:=zo (IsS71.drew HI481.out);have n3_:=zo (below_drew1 HB.out);clear HO490;clear BK492;clear HI481;clear HB;have HO490:=n0_;have BK492:=n1_;have HI481:=n2_;have HB:=n3_;clear n0_ n1_ n2_ n3_;refine start_ (n:=9) (S:=fun w'=>w'.cell? ⟨gb492,0,none⟩=some (.int .i64 t486)∧w'.cell? ⟨gb492,1,none⟩=some (.int .i64 t487)∧w'.cell? ⟨gb492,2,none⟩=some (.slice Ao17 t488.length co17)) (ds:=[]) #[false,false,false,false,false,false,false,false,false] zk rfl rfl ⟨(blk_cell BK492.out 0).trans rfl,(blk_cell BK492.out 1).trans rfl,(blk_cell BK492.out 2).trans rfl⟩ (fun hHeld=>?_);refine with_tabW soundservicelaw23_MixtureAlone.tab6 soundservicelaw23_MixtureAlone.bits6 (fun HT_ HW_=>?_);generalize w18.drew=w19 at HO490 BK492 HI481 HB hHeld ⊢;refine pure_ (i:=0) (N:=some 45) (v:=?_) (a':=?_) #[true,false,false,false,false,false,false,false,false] rfl rfl (any_of HT_.out zk) (fun _ _ _ h=>h) (Or.inl ⟨by rfl,?_⟩) ?_ ?_;rotate_left
 ·intro w'
  go_simp
  with_reducible rfl
 rotate_left
 ·simp only [Act.put,List.setIfInBounds_toArray,List.set_cons_zero,List.set_cons_succ,i64_w,i32_w];rfl
 refine pure_ (i:=1) (N:=some 46) (v:=?_) (a':=?_) #[true,true,false,false,false,false,false,false,false] rfl rfl (any_of HT_.out zk) (fun _ _ _ h=>h) (Or.inl ⟨by rfl,?_⟩) ?_ ?_;rotate_left
 ·intro w'
  go_simp
  with_reducible rfl
 rotate_left
 ·simp only [Act.put,List.setIfInBounds_toArray,List.set_cons_zero,List.set_cons_succ,i64_w,i32_w];rfl
 refine pure_ (i:=2) (N:=some 47) (v:=?_) (a':=?_) #[true,true,true,false,false,false,false,false,false] rfl rfl (any_of HT_.out zk) (fun _ _ _ h=>h) (Or.inl ⟨by rfl,?_⟩) ?_ ?_;rotate_left
 ·intro w'
  go_simp
  with_reducible rfl
 rotate_left
 ·simp only [Act.put,List.setIfInBounds_toArray,List.set_cons_zero,List.set_cons_succ,i64_w,i32_w];rfl
 refine pure_ (i:=5) (N:=some 50) (v:=?_) (a':=?_) #[true,true,true,false,false,true,false,false,false] rfl rfl (any_of HT_.out zk) (fun _ _ _ h=>h) (Or.inl ⟨by rfl,?_⟩) ?_ ?_;rotate_left
 ·intro w'
  go_simp
  with_reducible rfl
 rotate_left
 ·simp only [Act.put,List.setIfInBounds_toArray,List.set_cons_zero,List.set_cons_succ,i64_w,i32_w];rfl
 refine take_ (i:=4) (N:=some 49) (v:=?_) (a':=?_) #[true,true,true,false,true,true,false,false,false] rfl rfl (take_ofW HT_.out HW_.out zk) (fun _ _ _ h=>h) (Or.inl ⟨by rfl,?_⟩) hHeld ?_ ?_;rotate_left
 ·rintro w' ⟨s0,s1,s2⟩
  go_simp
  with_reducible rfl
 rotate_left
 ·simp only [Act.put,List.setIfInBounds_toArray,List.set_cons_zero,List.set_cons_succ,i64_w,i32_w];rfl
 refine join_ (σ:=Value×Nat) 1 #[true,true,true,true,true,true,true,true,false] (fun s_=>[(48,.agg #[.int .i64 t493,s_.1]),(8,.pointer (some ⟨s_.2,0,none⟩)),(51,.agg #[.int .i64 t493,s_.1,.int .i64 t486,.int .i64 t487,.slice Ao17 t488.length co17,.int .i64 65536,.int .i64 65536,.int .i64 0,.int .i64 0])]) (fun s_ w'=>(w'.cell? ⟨gb492,0,none⟩=some (.int .i64 t486)∧w'.cell? ⟨gb492,1,none⟩=some (.int .i64 t487)∧w'.cell? ⟨gb492,2,none⟩=some (.slice Ao17 t488.length co17))∧(Kd.R (Kd.int .i64) 3 w' w.heap.size (fun _=>True) (.slice Ao17 t488.length co17) t488)∧(Kd.R (Kd.int .i32) 21 w' w.heap.size (fun _=>True) s_.1 t494)∧(w'.heap[gb492]?=some (.cells #[.int .i64 t486,.int .i64 t487,.slice Ao17 t488.length co17] 50 (0,0)))∧(w'.heap[s_.2]?=some (.cells #[.int .i64 0,.slice none 0 0,.int .i64 0,.int .i64 0,.slice none 0 0,.int .i64 0,.int .i64 0,.int .i64 0,.int .i64 0] 54 (0,0)))∧(w.heap.size≤s_.2)∧(w.heap.size≤s_.2)∧(g481≠s_.2)∧(s_.2≠g481)∧(gb492≠s_.2)∧(s_.2≠gb492)∧(IsS71 w w' g481 t497)∧(Below w.heap.size w w')) ?_ ?_;rotate_left
 ·intro hCont;refine two_ (i:=3) (j:=7) (Ni:=some 48) (Nj:=some 8) #[true,true,true,true,true,true,false,false,false] #[true,true,true,false,true,true,false,true,false] rfl rfl rfl rfl (two_of HT_.out zk) (by decide) (by decide) (fun K hK=>?_) (fun K hK=>?_)
  ·skip
   refine goes_ Try.func27 zk rfl #[.pointer (some ⟨g481,0,none⟩),.int .i64 (wrap64 (1+t482)),.int .i64 t484] (by rfl) rfl rfl zA ?_
   with_reducible refine (soundservicemade_Block.calls k g481 t485 (wrap64 (1+t482)) t484 t493 t494 t497 w _ ?side1 ?side2 A8.out).mono ?_
   (case side1=>exact zJ HI481);(case side2=>exact zI HB HI481);rintro e w20 ⟨v495,rfl,ho0,hi,hb,hk⟩;refine ⟨_,rfl,?_⟩;have n0_:=zo (Kd.R_mono (Kd.R_keep (IsS71.apart (show IsS71 w _ g481 t485 from zJ HI481) (zR HO490) (by decide)) hk (fun _ h=>h.2)) (fun _ h=>h.1));have n1_:=zo (KeepBut.blk hk (g':=gb492) (o:=.cells #[.int .i64 t486,.int .i64 t487,.slice Ao17 t488.length co17] 50 (0,0)) (zB BK492) NB492_481.out (by simp));have n2_:=zo (Kd.R_lower ho0 (below_size (zI HB HI481)));have n3_:=zo hb;have n4_:=zo hi;clear HO490;clear BK492;clear HB;clear HI481;have HO490:=n0_;have BK492:=n1_;have HO496:=n2_;have HB:=n3_;have HI481:=n4_;clear n0_ n1_ n2_ n3_ n4_;(try clear hb);(try clear hb2);(try clear hk);(try clear hi);(try clear hgw);(try clear ho0);obtain ⟨Ao21,co21,eo21⟩:=Kd.R_slice HO496.out;(first|subst eo21|(injection eo21 with f1_ f2_ f3_;have f4_:=f1_.symm;have f5_:=f3_.symm;clear f1_ f2_ f3_;subst f4_;subst f5_));refine hK.out _ _ ⟨(blk_cell BK492.out 0).trans rfl,(blk_cell BK492.out 1).trans rfl,(blk_cell BK492.out 2).trans rfl⟩ (fun hHeld=>?_);clear hK K;refine norm_ (a':=?_) ?_ ?_;rotate_left
   ·show Act.put _ (some 48) _=_
    simp only [Act.put,List.setIfInBounds_toArray,List.set_cons_zero,List.set_cons_succ,i64_w,i32_w];rfl
   refine pure_ (i:=6) (N:=some 51) (v:=?_) (a':=?_) #[true,true,true,true,true,true,true,false,false] rfl rfl (any_of HT_.out zk) (fun _ _ _ h=>h) (Or.inl ⟨by rfl,?_⟩) ?_ ?_;rotate_left
   ·intro w'
    go_simp
    with_reducible rfl
   rotate_left
   ·simp only [Act.put,List.setIfInBounds_toArray,List.set_cons_zero,List.set_cons_succ,i64_w,i32_w];rfl
   refine one_ (i:=7) (N:=some 8) #[true,true,true,true,true,true,true,true,false] rfl rfl (one_of HT_.out zk) (by decide) (fun K hK=>?_);refine box_step ?hg (N:=8) ?hd (cs:=#[.int .i64 0,.slice none 0 0,.int .i64 0,.int .i64 0,.slice none 0 0,.int .i64 0,.int .i64 0,.int .i64 0,.int .i64 0]) (t:=54) ?hr ?_;(case hd=>rfl);(case hg=>rfl);(case hr=>first|(go_simp;done)|(go_simp;rfl));intro gb498 hg w22 hbox hb;have n0_:=zo (Kd.R_below (zR HO490) hb);have n1_:=zo (Kd.R_below (zR HO496) hb);have n2_:=zo (IsS71.below (zJ HI481) hb);have n3_:=zo (blk_below (zB BK492) hb);have n4_:=zo (below_step (zI HB HI481) hb);have n5_:=zo hbox;have n6_:=zo ((by rw [hg];exact (below_size (zI HB HI481)) : w.heap.size≤gb498));have n7_:=zo ((by rw [hg];exact (below_size (zI HB HI481)) : w.heap.size≤gb498));have n8_:=zo (zL hg BK492);have n9_:=zo (zG hg BK492);have n10_:=zo ((by rw [hg];exact Nat.ne_of_lt (IsS71.lt (show IsS71 w _ g481 t497 from zJ HI481)) : g481≠gb498));have n11_:=zo ((by rw [hg];exact Nat.ne_of_gt (IsS71.lt (show IsS71 w _ g481 t497 from zJ HI481)) : gb498≠g481));clear HO490;clear HO496;clear HI481;clear BK492;clear HB;have HO490:=n0_;have HO496:=n1_;have HI481:=n2_;have BK492:=n3_;have HB:=n4_;have BK498:=n5_;have GW498:=n6_;have GE498:=n7_;have NB492_498:=n8_;have NB498_492:=n9_;have NB481_498:=n10_;have NB498_481:=n11_;clear n0_ n1_ n2_ n3_ n4_ n5_ n6_ n7_ n8_ n9_ n10_ n11_;clear hb hbox hg;refine hK.out _ _ ⟨(blk_cell BK492.out 0).trans rfl,(blk_cell BK492.out 1).trans rfl,(blk_cell BK492.out 2).trans rfl⟩ (fun hHeld=>?_);clear hK K;refine norm_ (a':=?_) ?_ ?_;rotate_left
   ·show Act.put _ (some 8) _=_
    simp only [Act.put,List.setIfInBounds_toArray,List.set_cons_zero,List.set_cons_succ,i64_w,i32_w];rfl
   exact norm_ (by simp only [putAll,Act.put,List.setIfInBounds_toArray,List.set_cons_zero,List.set_cons_succ]) (hCont (.slice Ao21 t494.length co21,gb498) _ ⟨hHeld,(zR HO490),(zR HO496),(zB BK492),(zB BK498),GW498.out,GE498.out,NB481_498.out,NB498_481.out,NB492_498.out,NB498_492.out,(zJ HI481),(zI HB HI481)⟩)
  ·skip
   refine box_step ?hg (N:=8) ?hd (cs:=#[.int .i64 0,.slice none 0 0,.int .i64 0,.int .i64 0,.slice none 0 0,.int .i64 0,.int .i64 0,.int .i64 0,.int .i64 0]) (t:=54) ?hr ?_;(case hd=>rfl);(case hg=>rfl);(case hr=>first|(go_simp;done)|(go_simp;rfl));intro gb498 hg w20 hbox hb;have n0_:=zo (Kd.R_below (zR HO490) hb);have n1_:=zo (IsS71.below (zJ HI481) hb);have n2_:=zo (blk_below (zB BK492) hb);have n3_:=zo (below_step (zI HB HI481) hb);have n4_:=zo hbox;have n5_:=zo ((by rw [hg];exact (below_size (zI HB HI481)) : w.heap.size≤gb498));have n6_:=zo ((by rw [hg];exact (below_size (zI HB HI481)) : w.heap.size≤gb498));have n7_:=zo (zL hg BK492);have n8_:=zo (zG hg BK492);have n9_:=zo ((by rw [hg];exact Nat.ne_of_lt (IsS71.lt (show IsS71 w _ g481 t485 from zJ HI481)) : g481≠gb498));have n10_:=zo ((by rw [hg];exact Nat.ne_of_gt (IsS71.lt (show IsS71 w _ g481 t485 from zJ HI481)) : gb498≠g481));clear HO490;clear HI481;clear BK492;clear HB;have HO490:=n0_;have HI481:=n1_;have BK492:=n2_;have HB:=n3_;have BK498:=n4_;have GW498:=n5_;have GE498:=n6_;have NB492_498:=n7_;have NB498_492:=n8_;have NB481_498:=n9_;have NB498_481:=n10_;clear n0_ n1_ n2_ n3_ n4_ n5_ n6_ n7_ n8_ n9_ n10_;clear hb hbox hg;refine hK.out _ _ ⟨(blk_cell BK492.out 0).trans rfl,(blk_cell BK492.out 1).trans rfl,(blk_cell BK492.out 2).trans rfl⟩ (fun hHeld=>?_);clear hK K;refine norm_ (a':=?_) ?_ ?_;rotate_left
   ·show Act.put _ (some 8) _=_
    simp only [Act.put,List.setIfInBounds_toArray,List.set_cons_zero,List.set_cons_succ,i64_w,i32_w];rfl
   refine one_ (i:=3) (N:=some 48) #[true,true,true,true,true,true,false,true,false] rfl rfl (one_of HT_.out zk) (by decide) (fun K hK=>?_);refine goes_ Try.func27 zk rfl #[.pointer (some ⟨g481,0,none⟩),.int .i64 (wrap64 (1+t482)),.int .i64 t484] (by rfl) rfl rfl zA ?_
   with_reducible refine (soundservicemade_Block.calls k g481 t485 (wrap64 (1+t482)) t484 t493 t494 t497 w _ ?side1 ?side2 A8.out).mono ?_
   (case side1=>exact zJ HI481);(case side2=>exact zI HB HI481);rintro e w21 ⟨v495,rfl,ho0,hi,hb,hk⟩;refine ⟨_,rfl,?_⟩;have n0_:=zo (Kd.R_mono (Kd.R_keep (IsS71.apart (show IsS71 w _ g481 t485 from zJ HI481) (zR HO490) (by decide)) hk (fun _ h=>h.2)) (fun _ h=>h.1));have n1_:=zo (KeepBut.blk hk (g':=gb492) (o:=.cells #[.int .i64 t486,.int .i64 t487,.slice Ao17 t488.length co17] 50 (0,0)) (zB BK492) NB492_481.out (by simp));have n2_:=zo (KeepBut.blk hk (g':=gb498) (o:=.cells #[.int .i64 0,.slice none 0 0,.int .i64 0,.int .i64 0,.slice none 0 0,.int .i64 0,.int .i64 0,.int .i64 0,.int .i64 0] 54 (0,0)) (zB BK498) NB498_481.out (by simp));have n3_:=zo (Kd.R_lower ho0 (below_size (zI HB HI481)));have n4_:=zo hb;have n5_:=zo hi;clear HO490;clear BK492;clear BK498;clear HB;clear HI481;have HO490:=n0_;have BK492:=n1_;have BK498:=n2_;have HO496:=n3_;have HB:=n4_;have HI481:=n5_;clear n0_ n1_ n2_ n3_ n4_ n5_;(try clear hb);(try clear hb2);(try clear hk);(try clear hi);(try clear hgw);(try clear ho0);obtain ⟨Ao22,co22,eo22⟩:=Kd.R_slice HO496.out;(first|subst eo22|(injection eo22 with f1_ f2_ f3_;have f4_:=f1_.symm;have f5_:=f3_.symm;clear f1_ f2_ f3_;subst f4_;subst f5_));refine hK.out _ _ ⟨(blk_cell BK492.out 0).trans rfl,(blk_cell BK492.out 1).trans rfl,(blk_cell BK492.out 2).trans rfl⟩ (fun hHeld=>?_);clear hK K;refine norm_ (a':=?_) ?_ ?_;rotate_left
   ·show Act.put _ (some 48) _=_
    simp only [Act.put,List.setIfInBounds_toArray,List.set_cons_zero,List.set_cons_succ,i64_w,i32_w];rfl
   refine pure_ (i:=6) (N:=some 51) (v:=?_) (a':=?_) #[true,true,true,true,true,true,true,true,false] rfl rfl (any_of HT_.out zk) (fun _ _ _ h=>h) (Or.inl ⟨by rfl,?_⟩) ?_ ?_;rotate_left
   ·intro w'
    go_simp
    with_reducible rfl
   rotate_left
   ·simp only [Act.put,List.setIfInBounds_toArray,List.set_cons_zero,List.set_cons_succ,i64_w,i32_w];rfl
   exact norm_ (by simp only [putAll,Act.put,List.setIfInBounds_toArray,List.set_cons_zero,List.set_cons_succ]) (hCont (.slice Ao22 t494.length co22,gb498) _ ⟨hHeld,(zR HO490),(zR HO496),(zB BK492),(zB BK498),GW498.out,GE498.out,NB481_498.out,NB498_481.out,NB492_498.out,NB498_492.out,(zJ HI481),(zI HB HI481)⟩)
 rintro ⟨v495,gb498⟩ w23 ⟨hS_,h0_,h1_,h2_,h3_,h4_,h5_,h6_,h7_,h8_,h9_,h10_,h11_⟩;have n0_ : Aside0 (Kd.R (Kd.int .i64) 3 w23 w.heap.size (fun _=>True) (.slice Ao17 t488.length co17) t488):=⟨h0_⟩;have n1_ : Aside0 (Kd.R (Kd.int .i32) 21 w23 w.heap.size (fun _=>True) v495 t494):=⟨h1_⟩;have n2_ : Aside0 (w23.heap[gb492]?=some (.cells #[.int .i64 t486,.int .i64 t487,.slice Ao17 t488.length co17] 50 (0,0))):=⟨h2_⟩;have n3_ : Aside0 (w23.heap[gb498]?=some (.cells #[.int .i64 0,.slice none 0 0,.int .i64 0,.int .i64 0,.slice none 0 0,.int .i64 0,.int .i64 0,.int .i64 0,.int .i64 0] 54 (0,0))):=⟨h3_⟩;have n4_ : Aside0 (w.heap.size≤gb498):=⟨h4_⟩;have n5_ : Aside0 (w.heap.size≤gb498):=⟨h5_⟩;have n6_ : Aside0 (g481≠gb498):=⟨h6_⟩;have n7_ : Aside0 (gb498≠g481):=⟨h7_⟩;have n8_ : Aside0 (gb492≠gb498):=⟨h8_⟩;have n9_ : Aside0 (gb498≠gb492):=⟨h9_⟩;have n10_ : Aside0 (IsS71 w w23 g481 t497):=⟨h10_⟩;have n11_ : Aside0 (Below w.heap.size w w23):=⟨h11_⟩;clear HO490;clear BK492;clear HI481;clear HB;clear h0_ h1_ h2_ h3_ h4_ h5_ h6_ h7_ h8_ h9_ h10_ h11_;have HO490:=n0_;have HO496:=n1_;have BK492:=n2_;have BK498:=n3_;have GW498:=n4_;have GE498:=n5_;have NB481_498:=n6_;have NB498_481:=n7_;have NB492_498:=n8_;have NB498_492:=n9_;have HI481:=n10_;have HB:=n11_;clear n0_ n1_ n2_ n3_ n4_ n5_ n6_ n7_ n8_ n9_ n10_ n11_;have hHeld : w23.cell? ⟨gb492,0,none⟩=some (.int .i64 t486)∧w23.cell? ⟨gb492,1,none⟩=some (.int .i64 t487)∧w23.cell? ⟨gb492,2,none⟩=some (.slice Ao17 t488.length co17):=hS_;obtain ⟨Ao24,co24,eo24⟩:=Kd.R_slice HO496.out;(first|subst eo24|(injection eo24 with f1_ f2_ f3_;have f4_:=f1_.symm;have f5_:=f3_.symm;clear f1_ f2_ f3_;subst f4_;subst f5_));refine norm_ (a':=?_) ?_ ?_;rotate_left
 ·simp only [putAll,Act.put,List.setIfInBounds_toArray,List.set_cons_zero,List.set_cons_succ];rfl
 refine one_ (i:=8) (N:=none) #[true,true,true,true,true,true,true,true,true] rfl rfl (one_of HT_.out zk) (by decide) (fun K hK=>?_);have hs25:=zc BK498 0 (.int .i64 0) rfl;have hfs25:=blk_frozen BK498.out 0;have hns25_0:=NB492_498.out;have hms25_0:=NB498_492.out;have hs26:=zc BK498 1 (.slice none 0 0) rfl;have hfs26:=blk_frozen BK498.out 1;have hns26_0:=NB492_498.out;have hms26_0:=NB498_492.out;have hs27:=zc BK498 2 (.int .i64 0) rfl;have hfs27:=blk_frozen BK498.out 2;have hns27_0:=NB492_498.out;have hms27_0:=NB498_492.out;have hs28:=zc BK498 3 (.int .i64 0) rfl;have hfs28:=blk_frozen BK498.out 3;have hns28_0:=NB492_498.out;have hms28_0:=NB498_492.out;have hs29:=zc BK498 4 (.slice none 0 0) rfl;have hfs29:=blk_frozen BK498.out 4;have hns29_0:=NB492_498.out;have hms29_0:=NB498_492.out;have hs30:=zc BK498 5 (.int .i64 0) rfl;have hfs30:=blk_frozen BK498.out 5;have hns30_0:=NB492_498.out;have hms30_0:=NB498_492.out;have hs31:=zc BK498 6 (.int .i64 0) rfl;have hfs31:=blk_frozen BK498.out 6;have hns31_0:=NB492_498.out;have hms31_0:=NB498_492.out;have hs32:=zc BK498 7 (.int .i64 0) rfl;have hfs32:=blk_frozen BK498.out 7;have hns32_0:=NB492_498.out;have hms32_0:=NB498_492.out;have hs33:=zc BK498 8 (.int .i64 0) rfl;have hfs33:=blk_frozen BK498.out 8;have hns33_0:=NB492_498.out;have hms33_0:=NB498_492.out;refine skip_ (w1:=?_) (by rfl) rfl ?_ ?_;rotate_left
 ·go_simp
  rfl
 refine hK.out _ _ ⟨((cell_far (p:=⟨gb498,_,none⟩) NB492_498.out _).trans (((cell_far (p:=⟨gb498,_,none⟩) NB492_498.out _).trans (((cell_far (p:=⟨gb498,_,none⟩) NB492_498.out _).trans (((cell_far (p:=⟨gb498,_,none⟩) NB492_498.out _).trans (((cell_far (p:=⟨gb498,_,none⟩) NB492_498.out _).trans (((cell_far (p:=⟨gb498,_,none⟩) NB492_498.out _).trans (((cell_far (p:=⟨gb498,_,none⟩) NB492_498.out _).trans (((cell_far (p:=⟨gb498,_,none⟩) NB492_498.out _).trans (((cell_far (p:=⟨gb498,_,none⟩) NB492_498.out _).trans (hHeld.1)))))))))))))))))),((cell_far (p:=⟨gb498,_,none⟩) NB492_498.out _).trans (((cell_far (p:=⟨gb498,_,none⟩) NB492_498.out _).trans (((cell_far (p:=⟨gb498,_,none⟩) NB492_498.out _).trans (((cell_far (p:=⟨gb498,_,none⟩) NB492_498.out _).trans (((cell_far (p:=⟨gb498,_,none⟩) NB492_498.out _).trans (((cell_far (p:=⟨gb498,_,none⟩) NB492_498.out _).trans (((cell_far (p:=⟨gb498,_,none⟩) NB492_498.out _).trans (((cell_far (p:=⟨gb498,_,none⟩) NB492_498.out _).trans (((cell_far (p:=⟨gb498,_,none⟩) NB492_498.out _).trans (hHeld.2.1)))))))))))))))))),((cell_far (p:=⟨gb498,_,none⟩) NB492_498.out _).trans (((cell_far (p:=⟨gb498,_,none⟩) NB492_498.out _).trans (((cell_far (p:=⟨gb498,_,none⟩) NB492_498.out _).trans (((cell_far (p:=⟨gb498,_,none⟩) NB492_498.out _).trans (((cell_far (p:=⟨gb498,_,none⟩) NB492_498.out _).trans (((cell_far (p:=⟨gb498,_,none⟩) NB492_498.out _).trans (((cell_far (p:=⟨gb498,_,none⟩) NB492_498.out _).trans (((cell_far (p:=⟨gb498,_,none⟩) NB492_498.out _).trans (((cell_far (p:=⟨gb498,_,none⟩) NB492_498.out _).trans (hHeld.2.2))))))))))))))))))⟩ (fun hHeld=>?_);clear hK K;refine done_ (done_of HT_.out zk) ?_;have hnb34:=NB498_492.out;have hnc34:=NB492_498.out;have hnb35:=NB498_481.out;have hnc35:=NB481_498.out;obtain ⟨hcz36_0,hfz36_0,hcz36_1,hfz36_1,hcz36_2,hfz36_2,hcz36_3,hfz36_3,hcz36_4,hfz36_4,hcz36_5,hfz36_5,hcz36_6,hfz36_6,hcz36_7,hfz36_7,hcz36_8,hfz36_8⟩:=zn9 BK498
 try go_wp2
 go_loopg [56] k (fun kq v56 w'=>∃ (x56_1 : Int) (x499001_1 : List Int),v56 = .int .i64 x56_1∧Aside0 (soundservicelaw23_MixtureAlone.l0 kq (wrap64 (1+t482)) t484 (t494.length : Int) x56_1 t497 t493 x499001_1 t486 t487 t488 65536 65536 0 0=some r)∧Aside0 (kq≤k)∧Aside0 (Kd.R (Kd.int .i32) 21 w' w.heap.size (fun _=>True) (.slice Ao24 t494.length co24) x499001_1)∧Aside0 (Kd.R (Kd.int .i64) 3 w' w.heap.size (fun _=>True) (.slice Ao17 t488.length co17) t488)∧Aside0 (w'.heap[gb492]?=some (.cells #[.int .i64 t486,.int .i64 t487,(.slice Ao17 t488.length co17)] 50 (0,0)))∧Aside0 (w'.heap[gb498]?=some (.cells #[.int .i64 t493,(.slice Ao24 t494.length co24),.int .i64 t486,.int .i64 t487,(.slice Ao17 t488.length co17),.int .i64 65536,.int .i64 65536,.int .i64 0,.int .i64 0] 54 (0,0)))∧Aside0 (IsS71 w w' g481 t497)∧Aside0 (Below w.heap.size w w'))
 case atStart=>exact ⟨(0),(t494),zE,H',⟨Nat.le_refl _⟩,⟨by (with_reducible repeat (first|apply Kd.R_alloc|apply Kd.R_drewN|apply Kd.R_drew));exact Kd.R_mono (Kd.R_far (p:=⟨gb498,8,none⟩) (Kd.R_far (p:=⟨gb498,7,none⟩) (Kd.R_far (p:=⟨gb498,6,none⟩) (Kd.R_far (p:=⟨gb498,5,none⟩) (Kd.R_far (p:=⟨gb498,4,none⟩) (Kd.R_far (p:=⟨gb498,3,none⟩) (Kd.R_far (p:=⟨gb498,2,none⟩) (Kd.R_far (p:=⟨gb498,1,none⟩) (Kd.R_far (p:=⟨gb498,0,none⟩) (Kd.R_types HO496.out BK498.out (by decide)) (fun _ hk=>hk.2) (.int .i64 t493)) (fun _ hk=>hk.2) (.slice Ao24 t494.length co24)) (fun _ hk=>hk.2) (.int .i64 t486)) (fun _ hk=>hk.2) (.int .i64 t487)) (fun _ hk=>hk.2) (.slice Ao17 t488.length co17)) (fun _ hk=>hk.2) (.int .i64 65536)) (fun _ hk=>hk.2) (.int .i64 65536)) (fun _ hk=>hk.2) (.int .i64 0)) (fun _ hk=>hk.2) (.int .i64 0)) (fun _ hk=>trivial)⟩,⟨by (with_reducible repeat (first|apply Kd.R_alloc|apply Kd.R_drewN|apply Kd.R_drew));exact Kd.R_mono (Kd.R_far (p:=⟨gb498,8,none⟩) (Kd.R_far (p:=⟨gb498,7,none⟩) (Kd.R_far (p:=⟨gb498,6,none⟩) (Kd.R_far (p:=⟨gb498,5,none⟩) (Kd.R_far (p:=⟨gb498,4,none⟩) (Kd.R_far (p:=⟨gb498,3,none⟩) (Kd.R_far (p:=⟨gb498,2,none⟩) (Kd.R_far (p:=⟨gb498,1,none⟩) (Kd.R_far (p:=⟨gb498,0,none⟩) (Kd.R_types HO490.out BK498.out (by decide)) (fun _ hk=>hk.2) (.int .i64 t493)) (fun _ hk=>hk.2) (.slice Ao24 t494.length co24)) (fun _ hk=>hk.2) (.int .i64 t486)) (fun _ hk=>hk.2) (.int .i64 t487)) (fun _ hk=>hk.2) (.slice Ao17 t488.length co17)) (fun _ hk=>hk.2) (.int .i64 65536)) (fun _ hk=>hk.2) (.int .i64 65536)) (fun _ hk=>hk.2) (.int .i64 0)) (fun _ hk=>hk.2) (.int .i64 0)) (fun _ hk=>trivial)⟩,⟨zB BK492⟩,⟨zB BK498⟩,⟨zJ HI481⟩,⟨zI HB HI481⟩⟩
 case round=>
  clear H'
  try clear c1
  try clear c2
  try clear p2
  try clear c3
  try clear c6
  try clear p6
  try clear c8
  try clear c10
  try clear c11
  try clear c15
  try clear c26
  try clear c27
  try clear c34
  try clear c35
  obtain ⟨x56_1,x499001_1,rfl,HA,HK1,HO_499001,HO_499004,BK492,BK498,HI481,HB⟩:=hrel;have hl499001_1:=(Kd.R_reads' HO_499001.out).1;rw [hl499001_1] at HO_499001;(try simp only [hl499001_1]);(try simp only [hl499001_1] at BK492);(try simp only [hl499001_1] at BK498);(try simp only [hl499001_1] at HO_499004)
  cases gk with
  | zero=>exact absurd HA.out (by simp [soundservicelaw23_MixtureAlone.l0])
  | succ k1=>
   have H:=HA.out;clear HA;simp only [soundservicelaw23_MixtureAlone.l0] at H
   by_cases c37 : x56_1<(t494.length : Int)
   ·rw [if_pos c37] at H;have c37b0:=decide_eq_true c37;(try (have c37b1 : decide (x56_1<((x499001_1.length : Nat) : Int))=true:=by rw [← show t494.length=x499001_1.length from hl499001_1];exact decide_eq_true c37));clear c37
    by_cases c38 : 0≤x56_1
    rotate_left
    ·rw [if_neg c38] at H;exact absurd H (by simp)
    rw [if_pos c38] at H;have c38b0:=decide_eq_true c38;clear c38
    by_cases c39 : x56_1<(x499001_1.length : Int)
    rotate_left
    ·rw [if_neg c39] at H;exact absurd H (by simp)
    rw [if_pos c39] at H;have c39b0:=decide_eq_true c39;clear c39;obtain ⟨ji40,hji40⟩ : ∃ j_ : Int,(mx (rd x499001_1 x56_1) (-8388607))=j_:=⟨_,rfl⟩;(first|rw [hji40] at H|simp only [hji40] at H);have hji40_ : (if (rd x499001_1 x56_1)<(-8388607) then (-8388607) else (rd x499001_1 x56_1))=ji40:=hji40;obtain ⟨y500,hy500⟩ : ∃ y_ : List Int,y_=(x499001_1.set (x56_1 : Int).toNat (ji40)):=⟨_,rfl⟩;replace H : (soundservicelaw23_MixtureAlone.l0 k1 (wrap64 (1+t482)) t484 (t494.length : Int) (wrap64 (x56_1+1)) t497 t493 y500 t486 t487 t488 65536 65536 0 0)=some r:=by first|(rw [hy500];with_reducible exact H)|(have H2_:=(Option.bind_some _ _).symm.trans H;rw [hy500];with_reducible exact H2_)|(have H2_:=(Option.bind_some _ _).symm.trans H;with_reducible exact H2_)|with_reducible exact H|(rw [hy500];exact H)|exact H
    have Ny500:=zo hy500;clear hy500;have H':=zo H;clear H;have p499 : 0≤(x56_1 : Int):=zD;have q499 : x56_1<(x499001_1.length : Int):=zD;obtain ⟨ad499,e499,hx499_0⟩:=Kd.at_int (Kd.R_reads' HO_499001.out).2.2 x56_1 p499 q499
    cases e499
    replace p499:=eq_true p499;replace q499:=eq_true q499;have hnb42:=NB498_492.out;have hnc42:=NB492_498.out;have hnb43:=NB498_481.out;have hnc43:=NB481_498.out;obtain ⟨hcz44_0,hfz44_0,hcz44_1,hfz44_1,hcz44_2,hfz44_2,hcz44_3,hfz44_3,hcz44_4,hfz44_4,hcz44_5,hfz44_5,hcz44_6,hfz44_6,hcz44_7,hfz44_7,hcz44_8,hfz44_8⟩:=zn9 BK498;have p41 : 0≤(x56_1 : Int):=zD;have q41 : (x56_1 : Int)<((x499001_1.length : Int) : Int):=zD;obtain ⟨go41,co41,eo41,gb41,gl41,cl41,HG41⟩:=Kd.R_form HO_499001.out (by omega);(first|cases eo41|(injection eo41 with ea_ en_ ec_;(first|subst ea_|(injection ea_ with ea_;subst ea_));subst ec_;clear en_));have GB41:=zo gb41;have GG41:=zo HG41;clear gb41 gl41 HG41;(first|simp only [add_plain] at hx499_0|skip);obtain ⟨hx41_0,hf41_0⟩:=Kd.R_celln 0 HO_499001.out (x56_1 : Int) p41 q41;replace p41:=eq_true p41;replace q41:=eq_true q41;have HP45:=Kd.R_putg HO_499001.out (x56_1 : Int) ji40
    go_wp2_with (first|((with_reducible refine gate_store (t:=21) (p:=67) rfl ?_);refine store_event (t:=21) (p:=67) (v:=?vo_w46) (w1:=(wr.setCell ⟨go41,(x56_1 : Int).toNat,none⟩ (.int .i32 ji40))) ?hg ?ho ?hn ?hr ?_;(case ho=>rfl);(case hg=>rfl);(case hn=>rfl);(case hr=>first|(go_simp;done)|(go_simp;rfl));intro w46 hw;have hg : wr.grownBy w46 (some go41):=(by rw [hw];exact HP45.2);have hp_ : Kd.R (Kd.int .i32) 21 w46 w.heap.size (fun _=>True) (.slice (some ⟨go41,0,none⟩) x499001_1.length co24) y500:=(by rw [hw,Ny500.out];exact HP45.1);clear HP45;replace HO_499004:=zo (Kd.R_over' (v:=(.slice (some ⟨go41,0,none⟩) x499001_1.length co24)) (zR HO_499004) (Kd.R_typed HO_499001.out) (by decide) hg);replace BK492:=zo (blk_grown (zB BK492) hg (Kd.R_ne HO_499001.out BK492.out (by decide)));replace BK498:=zo (blk_grown (zB BK498) hg (Kd.R_ne HO_499001.out BK498.out (by decide)));replace HI481:=zo (IsS71.grown (zJ HI481) hg (IsS71.own_ne HI481.out HO_499001.out (by decide)));replace HO_499001:=zo hp_;replace HB:=zo ((by rw [hw];exact below_set (HB.out) GB41.out : Below w.heap.size w w46));clear hg hw hp_))
    (try simp only [← hl499001_1])
    go_roundg k1
    case measure=>have:=HK1.out;omega
    case rel=>exact ⟨(wrap64 (x56_1+1)),(y500),zE,H',⟨by have:=HK1.out;omega⟩,⟨by (try simp only [hl499001_1]);(with_reducible repeat (first|apply Kd.R_alloc|apply Kd.R_drewN|apply Kd.R_drew));exact HO_499001.out⟩,⟨by (try simp only [hl499001_1]);(with_reducible repeat (first|apply Kd.R_alloc|apply Kd.R_drewN|apply Kd.R_drew));exact HO_499004.out⟩,⟨by (try simp only [hl499001_1]);(with_reducible repeat (first|refine blk_drewN ?_ _|refine blk_drew ?_|refine blk_alloc ?_ _));exact BK492.out⟩,⟨by (try simp only [hl499001_1]);(with_reducible repeat (first|refine blk_drewN ?_ _|refine blk_drew ?_|refine blk_alloc ?_ _));exact BK498.out⟩,⟨zJ HI481⟩,⟨zI HB HI481⟩⟩
   rw [if_neg c37] at H;have c37b0:=decide_eq_false c37;(try (have c37b1 : decide (x56_1<((x499001_1.length : Nat) : Int))=false:=by rw [← show t494.length=x499001_1.length from hl499001_1];exact decide_eq_false c37));clear c37;replace H:=Option.bind_eq_some_iff.mp H;obtain ⟨⟨t501,t502,t503,t504⟩,A470,H⟩:=H
   try dsimp only at H
   have A47:=zo A470;clear A470;obtain ⟨y506,hy506⟩ : ∃ y_ : List (S54),y_=(([(⟨(⟨t493,x499001_1⟩ : S43),(⟨t486,t487,t488⟩ : S50),(⟨65536,65536,0,0⟩ : S52)⟩ : S54)] : List (S54))):=⟨_,rfl⟩;replace H : ((mixture_Mix.f k1 (wrap64 (1+t482)) t484 y506 t501 t502 t503).bind fun bt509=>((soundservicelaw23_made.f k1 t497 (wrap64 (1+t482)) t484).bind fun bt519=>((soundservicelaw23_made.f k1 bt519.2 (wrap64 (1+t482)) t484).bind fun bt523=>((mixture_Sum.f k1 (wrap64 (1+t482)) t484 bt519.1).bind fun bt527=>((mixture_Sum.f k1 (wrap64 (1+t482)) t484 bt523.1).bind fun bt531=>(if ([] : List (S54)).length+bt519.1.length<1353245080339 then ((some (([] : List (S54)) ++ bt519.1 : List (S54))).bind fun y535=>(if y535.length+bt523.1.length<1353245080339 then ((mixture_Sum.f k1 (wrap64 (1+t482)) t484 (y535 ++ bt523.1)).bind fun bt541=>(if bt509.2.2.2.2.2=0 then ((soundserviceref04_Same.f k1 bt509.1 bt509.2.1 t493 x499001_1).bind fun t545=>(if t545=true then (if bt527.2=0 then (if bt531.2=0 then (if bt541.2=0 then (if (bt527.1.length : Int)=(wrap64 ((wrap64 (1+t482))*t484)) then (if (bt531.1.length : Int)=(wrap64 ((wrap64 (1+t482))*t484)) then (soundservicelaw23_MixtureAlone.j1 k1 (wrap64 (1+t482)) t484 bt519.1 bt527.1 bt531.1 bt541.1 ((bt541.1.length : Int) != (wrap64 ((wrap64 (1+t482))*t484))) bt523.2) else (soundservicelaw23_MixtureAlone.j1 k1 (wrap64 (1+t482)) t484 bt519.1 bt527.1 bt531.1 bt541.1 true bt523.2)) else (soundservicelaw23_MixtureAlone.j1 k1 (wrap64 (1+t482)) t484 bt519.1 bt527.1 bt531.1 bt541.1 true bt523.2)) else (soundservicelaw23_MixtureAlone.j1 k1 (wrap64 (1+t482)) t484 bt519.1 bt527.1 bt531.1 bt541.1 true bt523.2)) else (soundservicelaw23_MixtureAlone.j1 k1 (wrap64 (1+t482)) t484 bt519.1 bt527.1 bt531.1 bt541.1 true bt523.2)) else (soundservicelaw23_MixtureAlone.j1 k1 (wrap64 (1+t482)) t484 bt519.1 bt527.1 bt531.1 bt541.1 true bt523.2)) else (soundservicelaw23_MixtureAlone.j1 k1 (wrap64 (1+t482)) t484 bt519.1 bt527.1 bt531.1 bt541.1 true bt523.2))) else (soundservicelaw23_MixtureAlone.j1 k1 (wrap64 (1+t482)) t484 bt519.1 bt527.1 bt531.1 bt541.1 true bt523.2))) else (none))) else (none)))))))=some r:=by first|(rw [hy506];with_reducible exact H)|(have H2_:=(Option.bind_some _ _).symm.trans H;rw [hy506];with_reducible exact H2_)|(have H2_:=(Option.bind_some _ _).symm.trans H;with_reducible exact H2_)|with_reducible exact H|(rw [hy506];exact H)|exact H
   have Ny506:=zo hy506;clear hy506;replace H:=Option.bind_eq_some_iff.mp H;obtain ⟨⟨t509,t510,t513,t514,t515,t516⟩,A480,H⟩:=H
   try dsimp only at H
   have A48:=zo A480;clear A480;replace H:=Option.bind_eq_some_iff.mp H;obtain ⟨⟨t519,t522⟩,A490,H⟩:=H
   try dsimp only at H
   have A49:=zo A490;clear A490;replace H:=Option.bind_eq_some_iff.mp H;obtain ⟨⟨t523,t526⟩,A500,H⟩:=H
   try dsimp only at H
   have A50:=zo A500;clear A500;replace H:=Option.bind_eq_some_iff.mp H;obtain ⟨⟨t527,t528⟩,A510,H⟩:=H
   try dsimp only at H
   have A51:=zo A510;clear A510;replace H:=Option.bind_eq_some_iff.mp H;obtain ⟨⟨t531,t532⟩,A520,H⟩:=H
   try dsimp only at H
   have A52:=zo A520;clear A520
   by_cases c53 : ([] : List (S54)).length+t519.length<1353245080339
   rotate_left
   ·rw [if_neg c53] at H;exact absurd H (by simp)
   rw [if_pos c53] at H;have LMc53:=zo c53;clear c53;obtain ⟨y535,hy535⟩ : ∃ y_ : List (S54),y_=(([] : List (S54)) ++ t519):=⟨_,rfl⟩;replace H : (if y535.length+t523.length<1353245080339 then ((mixture_Sum.f k1 (wrap64 (1+t482)) t484 (y535 ++ t523)).bind fun bt541=>(if t516=0 then ((soundserviceref04_Same.f k1 t509 t510 t493 x499001_1).bind fun t545=>(if t545=true then (if t528=0 then (if t532=0 then (if bt541.2=0 then (if (t527.length : Int)=(wrap64 ((wrap64 (1+t482))*t484)) then (if (t531.length : Int)=(wrap64 ((wrap64 (1+t482))*t484)) then (soundservicelaw23_MixtureAlone.j1 k1 (wrap64 (1+t482)) t484 t519 t527 t531 bt541.1 ((bt541.1.length : Int) != (wrap64 ((wrap64 (1+t482))*t484))) t526) else (soundservicelaw23_MixtureAlone.j1 k1 (wrap64 (1+t482)) t484 t519 t527 t531 bt541.1 true t526)) else (soundservicelaw23_MixtureAlone.j1 k1 (wrap64 (1+t482)) t484 t519 t527 t531 bt541.1 true t526)) else (soundservicelaw23_MixtureAlone.j1 k1 (wrap64 (1+t482)) t484 t519 t527 t531 bt541.1 true t526)) else (soundservicelaw23_MixtureAlone.j1 k1 (wrap64 (1+t482)) t484 t519 t527 t531 bt541.1 true t526)) else (soundservicelaw23_MixtureAlone.j1 k1 (wrap64 (1+t482)) t484 t519 t527 t531 bt541.1 true t526)) else (soundservicelaw23_MixtureAlone.j1 k1 (wrap64 (1+t482)) t484 t519 t527 t531 bt541.1 true t526))) else (soundservicelaw23_MixtureAlone.j1 k1 (wrap64 (1+t482)) t484 t519 t527 t531 bt541.1 true t526))) else (none))=some r:=by first|(rw [hy535];with_reducible exact H)|(have H2_:=(Option.bind_some _ _).symm.trans H;rw [hy535];with_reducible exact H2_)|(have H2_:=(Option.bind_some _ _).symm.trans H;with_reducible exact H2_)|with_reducible exact H|(rw [hy535];exact H)|exact H
   have Ny535:=zo hy535;clear hy535
   by_cases c54 : y535.length+t523.length<1353245080339
   rotate_left
   ·rw [if_neg c54] at H;exact absurd H (by simp)
   rw [if_pos c54] at H;have LMc54:=zo c54;clear c54;obtain ⟨y538,hy538⟩ : ∃ y_ : List (S54),y_=(y535 ++ t523):=⟨_,rfl⟩;replace H : ((mixture_Sum.f k1 (wrap64 (1+t482)) t484 y538).bind fun bt541=>(if t516=0 then ((soundserviceref04_Same.f k1 t509 t510 t493 x499001_1).bind fun t545=>(if t545=true then (if t528=0 then (if t532=0 then (if bt541.2=0 then (if (t527.length : Int)=(wrap64 ((wrap64 (1+t482))*t484)) then (if (t531.length : Int)=(wrap64 ((wrap64 (1+t482))*t484)) then (soundservicelaw23_MixtureAlone.j1 k1 (wrap64 (1+t482)) t484 t519 t527 t531 bt541.1 ((bt541.1.length : Int) != (wrap64 ((wrap64 (1+t482))*t484))) t526) else (soundservicelaw23_MixtureAlone.j1 k1 (wrap64 (1+t482)) t484 t519 t527 t531 bt541.1 true t526)) else (soundservicelaw23_MixtureAlone.j1 k1 (wrap64 (1+t482)) t484 t519 t527 t531 bt541.1 true t526)) else (soundservicelaw23_MixtureAlone.j1 k1 (wrap64 (1+t482)) t484 t519 t527 t531 bt541.1 true t526)) else (soundservicelaw23_MixtureAlone.j1 k1 (wrap64 (1+t482)) t484 t519 t527 t531 bt541.1 true t526)) else (soundservicelaw23_MixtureAlone.j1 k1 (wrap64 (1+t482)) t484 t519 t527 t531 bt541.1 true t526)) else (soundservicelaw23_MixtureAlone.j1 k1 (wrap64 (1+t482)) t484 t519 t527 t531 bt541.1 true t526))) else (soundservicelaw23_MixtureAlone.j1 k1 (wrap64 (1+t482)) t484 t519 t527 t531 bt541.1 true t526)))=some r:=by first|(rw [hy538];with_reducible exact H)|(have H2_:=(Option.bind_some _ _).symm.trans H;rw [hy538];with_reducible exact H2_)|(have H2_:=(Option.bind_some _ _).symm.trans H;with_reducible exact H2_)|with_reducible exact H|(rw [hy538];exact H)|exact H
   have Ny538:=zo hy538;clear hy538;replace H:=Option.bind_eq_some_iff.mp H;obtain ⟨⟨t541,t542⟩,A550,H⟩:=H
   try dsimp only at H
   have A55:=zo A550;clear A550;have HC56:=zo H;clear H
   go_upto_region 18 with (first|((with_reducible refine gate_callee (f:=28) rfl ?_);refine goesL_ (some 70) rfl rfl Try.func28 zk rfl #[.int .i64 8388607,.int .i64 1] rfl zA ?_;(with_reducible refine (soundserviceref08_New.calls 8388607 1 t501 t502 t503 t504 _ A47.out).mono ?_);rintro e w57 ⟨rfl,hb⟩;refine ⟨_,rfl,?_⟩;replace HO_499001:=zo (Kd.R_below (zR HO_499001) hb);replace HO_499004:=zo (Kd.R_below (zR HO_499004) hb);replace BK492:=zo (blk_below (zB BK492) hb);replace BK498:=zo (blk_below (zB BK498) hb);replace HB:=zo (below_step (zI HB HI481) hb);replace HI481:=zo (IsS71.below (zJ HI481) hb);(try clear hb))|((with_reducible refine gate_dst (N:=11) rfl ?_);(try (refine gate_guard (by rfl) ?_;dsimp only));refine box_event ?hg (N:=11) ?hd (cs:=#[.int .i64 0,.int .i64 0,.int .i64 0]) (t:=24) ?hr ?_;(case hd=>rfl);(case hg=>rfl);(case hr=>first|(go_simp;done)|(go_simp;rfl));intro gb505 hg w58 hbox hb;replace HO_499001:=zo (Kd.R_below (zR HO_499001) hb);replace HO_499004:=zo (Kd.R_below (zR HO_499004) hb);have BK505:=zo hbox;have GW505:=zo ((by rw [hg];exact (below_size (zI HB HI481)) : w.heap.size≤gb505));have GE505:=zo ((by rw [hg];exact (below_size (zI HB HI481)) : w.heap.size≤gb505));replace HB:=zo (below_step (zI HB HI481) hb);have NB492_505:=zo (zL hg BK492);have NB505_492:=zo (zG hg BK492);replace BK492:=zo (blk_below (zB BK492) hb);have NB498_505:=zo (zL hg BK498);have NB505_498:=zo (zG hg BK498);replace BK498:=zo (blk_below (zB BK498) hb);have NB481_505:=zo ((by rw [hg];exact Nat.ne_of_lt (IsS71.lt (show IsS71 w _ g481 t497 from zJ HI481)) : g481≠gb505));have NB505_481:=zo ((by rw [hg];exact Nat.ne_of_gt (IsS71.lt (show IsS71 w _ g481 t497 from zJ HI481)) : gb505≠g481));replace HI481:=zo (IsS71.below (zJ HI481) hb);clear hb hbox hg;have hnb59:=NB505_492.out;have hnc59:=NB492_505.out;have hnb60:=NB505_498.out;have hnc60:=NB498_505.out;have hnb61:=NB505_481.out;have hnc61:=NB481_505.out;obtain ⟨hcz62_0,hfz62_0,hcz62_1,hfz62_1,hcz62_2,hfz62_2⟩:=zn3 BK505)|((with_reducible refine gate_store (t:=24) (p:=11) rfl ?_);refine store_event (t:=24) (p:=11) (v:=?vo_w63) (w1:=(((w58.setCell ⟨gb505,0,none⟩ (.int .i64 t501)).setCell ⟨gb505,1,none⟩ (.int .i64 t502)).setCell ⟨gb505,2,none⟩ (.int .i64 t503))) ?hg ?ho ?hn ?hr ?_;(case ho=>rfl);(case hg=>rfl);(case hn=>rfl);(case hr=>first|(go_simp;done)|(go_simp;rfl));intro w63 hw;have n0_ : Aside0 (Kd.R (Kd.int .i32) 21 w63 w.heap.size (fun _=>True) (.slice Ao24 x499001_1.length co24) x499001_1):=⟨(by rw [hw];exact (by (with_reducible repeat (first|apply Kd.R_alloc|apply Kd.R_drewN|apply Kd.R_drew));exact Kd.R_mono (Kd.R_far (p:=⟨gb505,2,none⟩) (Kd.R_far (p:=⟨gb505,1,none⟩) (Kd.R_far (p:=⟨gb505,0,none⟩) (Kd.R_types HO_499001.out BK505.out (by decide)) (fun _ hk=>hk.2) (.int .i64 t501)) (fun _ hk=>hk.2) (.int .i64 t502)) (fun _ hk=>hk.2) (.int .i64 t503)) (fun _ hk=>trivial)))⟩;have n1_ : Aside0 (Kd.R (Kd.int .i64) 3 w63 w.heap.size (fun _=>True) (.slice Ao17 t488.length co17) t488):=⟨(by rw [hw];exact (by (with_reducible repeat (first|apply Kd.R_alloc|apply Kd.R_drewN|apply Kd.R_drew));exact Kd.R_mono (Kd.R_far (p:=⟨gb505,2,none⟩) (Kd.R_far (p:=⟨gb505,1,none⟩) (Kd.R_far (p:=⟨gb505,0,none⟩) (Kd.R_types HO_499004.out BK505.out (by decide)) (fun _ hk=>hk.2) (.int .i64 t501)) (fun _ hk=>hk.2) (.int .i64 t502)) (fun _ hk=>hk.2) (.int .i64 t503)) (fun _ hk=>trivial)))⟩;have n2_ : Aside0 (w63.heap[gb492]?=some (.cells #[.int .i64 t486,.int .i64 t487,.slice Ao17 t488.length co17] 50 (0,0))):=⟨(by rw [hw];exact (zB BK492))⟩;have n3_ : Aside0 (w63.heap[gb498]?=some (.cells #[.int .i64 t493,.slice Ao24 x499001_1.length co24,.int .i64 t486,.int .i64 t487,.slice Ao17 t488.length co17,.int .i64 65536,.int .i64 65536,.int .i64 0,.int .i64 0] 54 (0,0))):=⟨(by rw [hw];exact (zB BK498))⟩;have n4_ : Aside0 (w63.heap[gb505]?=some (.cells #[.int .i64 t501,.int .i64 t502,.int .i64 t503] 24 (0,0))):=⟨(by rw [hw];exact (zB BK505))⟩;have n5_ : Aside0 (IsS71 w w63 g481 t497):=⟨(by rw [hw];exact (zJ HI481))⟩;have n6_ : Aside0 (Below w.heap.size w w63):=⟨(by rw [hw];exact (zI HB HI481))⟩;clear hw;clear HO_499001;clear HO_499004;clear BK492;clear BK498;clear BK505;clear HI481;clear HB;have HO_499001:=n0_;have HO_499004:=n1_;have BK492:=n2_;have BK498:=n3_;have BK505:=n4_;have HI481:=n5_;have HB:=n6_;clear n0_ n1_ n2_ n3_ n4_ n5_ n6_;have hnb64:=NB498_492.out;have hnc64:=NB492_498.out;have hnb65:=NB498_481.out;have hnc65:=NB481_498.out;obtain ⟨hcz66_0,hfz66_0,hcz66_1,hfz66_1,hcz66_2,hfz66_2,hcz66_3,hfz66_3,hcz66_4,hfz66_4,hcz66_5,hfz66_5,hcz66_6,hfz66_6,hcz66_7,hfz66_7,hcz66_8,hfz66_8⟩:=zn9 BK498;have sh_ : Aside0 (Kd.V (Kd.int .i64) 3 w63 w.heap.size (fun k_=>some k_≠(.slice Ao24 x499001_1.length co24 : Value).ownBlock∧k_≠gb492∧k_≠gb498∧k_≠gb505∧k_≠g481) (.slice Ao17 t488.length co17) t488):=⟨Kd.R_V (Kd.R_mono (IsS71.apart HI481.out (Kd.R_types (Kd.R_types (Kd.R_types (Kd.R_apart' (HO_499004.out) (Kd.R_typed HO_499001.out) (by decide)) BK492.out (by decide)) BK498.out (by decide)) BK505.out (by decide)) (by decide)) (fun k_ hk=>⟨hk.1.1.1.1.2,⟨hk.1.1.1.2,⟨hk.1.1.2,⟨hk.1.2,hk.2⟩⟩⟩⟩))⟩;clear HO_499004;have HO_499004:=sh_;clear sh_;have sh_ : Aside0 (Kd.V (Kd.int .i32) 21 w63 w.heap.size (fun k_=>k_≠gb492∧k_≠gb498∧k_≠gb505∧k_≠g481) (.slice Ao24 x499001_1.length co24) x499001_1):=⟨Kd.R_V (Kd.R_mono (IsS71.apart HI481.out (Kd.R_types (Kd.R_types (Kd.R_types (HO_499001.out) BK492.out (by decide)) BK498.out (by decide)) BK505.out (by decide)) (by decide)) (fun k_ hk=>⟨hk.1.1.1.2,⟨hk.1.1.2,⟨hk.1.2,hk.2⟩⟩⟩))⟩;clear HO_499001;have HO_499001:=sh_;clear sh_)|((with_reducible refine gate_dst (N:=77) rfl ?_);(try (refine gate_guard (by rfl) ?_;dsimp only));refine Kd.N_lit k54 _ 54 ?hg (N':=77) ?hd (xs:=([(⟨(⟨t493,x499001_1⟩ : S43),(⟨t486,t487,t488⟩ : S50),(⟨65536,65536,0,0⟩ : S52)⟩ : S54)] : List (S54))) (inner:=[.int .i64 t493,.slice Ao24 x499001_1.length co24,.int .i64 t486,.int .i64 t487,.slice Ao17 t488.length co17,.int .i64 65536,.int .i64 65536,.int .i64 0,.int .i64 0]) (ok:=(fun k_=>k_≠gb492∧k_≠gb498∧k_≠gb505∧k_≠g481)) (okp:=(fun k_=>k_≠gb492∧k_≠gb498∧k_≠gb505∧k_≠g481)) ?hr ?hp (fun _ hk=>hk) ((show ∀ k_,w63.heap.size≤k_→(fun k_=>k_≠gb492∧k_≠gb498∧k_≠gb505∧k_≠g481) k_ from fun k_ hk=>⟨Kd.freshB (g:=gb492) (o:=.cells #[.int .i64 t486,.int .i64 t487,.slice Ao17 t488.length co17] 50 (0,0)) (zB BK492) k_ hk,Kd.freshB (g:=gb498) (o:=.cells #[.int .i64 t493,.slice Ao24 x499001_1.length co24,.int .i64 t486,.int .i64 t487,.slice Ao17 t488.length co17,.int .i64 65536,.int .i64 65536,.int .i64 0,.int .i64 0] 54 (0,0)) (zB BK498) k_ hk,Kd.freshB (g:=gb505) (o:=.cells #[.int .i64 t501,.int .i64 t502,.int .i64 t503] 24 (0,0)) (zB BK505) k_ hk,IsS71.fresh (zJ HI481) k_ hk⟩) _ (Nat.le_refl _)) (Below.refl _ _) (Nat.le_refl _) (by simp) ?_;(case hd=>rfl);(case hg=>rfl);(case hr=>first|(go_simp;done)|(go_simp;rfl));(case hp=>exact (Reps.c9 (show Kd.FK k54 _ _ (⟨(⟨t493,x499001_1⟩ : S43),(⟨t486,t487,t488⟩ : S50),(⟨65536,65536,0,0⟩ : S52)⟩ : S54) [.int .i64 t493,.slice Ao24 x499001_1.length co24,.int .i64 t486,.int .i64 t487,.slice Ao17 t488.length co17,.int .i64 65536,.int .i64 65536,.int .i64 0,.int .i64 0] from (k54_mkF _ _ (⟨(⟨t493,x499001_1⟩ : S43),(⟨t486,t487,t488⟩ : S50),(⟨65536,65536,0,0⟩ : S52)⟩ : S54) (Kd.V_reads' (Kd.V_mono (ok':=(fun k_=>k_≠gb492∧k_≠gb498∧k_≠gb505∧k_≠g481)) (HO_499001.out) (fun k_ hk=>⟨hk.1,⟨hk.2.1,⟨hk.2.2.1,hk.2.2.2⟩⟩⟩))).2.1 (Kd.V_F (Kd.V_mono (ok':=(fun k_=>k_≠gb492∧k_≠gb498∧k_≠gb505∧k_≠g481)) (HO_499001.out) (fun k_ hk=>⟨hk.1,⟨hk.2.1,⟨hk.2.2.1,hk.2.2.2⟩⟩⟩))) (Kd.V_reads' (Kd.V_mono (ok':=(fun k_=>k_≠gb492∧k_≠gb498∧k_≠gb505∧k_≠g481)) (HO_499004.out) (fun k_ hk=>⟨hk.2.1,⟨hk.2.2.1,⟨hk.2.2.2.1,hk.2.2.2.2⟩⟩⟩))).2.1 (Kd.V_F (Kd.V_mono (ok':=(fun k_=>k_≠gb492∧k_≠gb498∧k_≠gb505∧k_≠g481)) (HO_499004.out) (fun k_ hk=>⟨hk.2.1,⟨hk.2.2.1,⟨hk.2.2.2.1,hk.2.2.2.2⟩⟩⟩))))) (Reps.none _ _)));intro v507 w67 ho68 hb hg_ hnew_;clear hg_ hnew_;(first|rw [← Ny506.out] at ho68|(simp only [Int.reduceToNat] at ho68;rw [← Ny506.out] at ho68));replace HO_499001:=zo (Kd.V_elder' (zV HO_499001) (Kd.N_base ho68) hb);replace HO_499004:=zo (Kd.V_elder' (zV HO_499004) (Kd.N_base ho68) hb);have HO508:=zo (Kd.N_lower ho68 (below_size (zI HB HI481)));replace BK492:=zo (blk_below (zB BK492) hb);replace BK498:=zo (blk_below (zB BK498) hb);replace BK505:=zo (blk_below (zB BK505) hb);replace HB:=zo (below_step (zI HB HI481) hb);replace HI481:=zo (IsS71.below (zJ HI481) hb);clear hb ho68;obtain ⟨hcz69_0,hfz69_0,hcz69_1,hfz69_1,hcz69_2,hfz69_2⟩:=zn3 BK505;obtain ⟨Ao70,co70,eo70⟩:=Kd.N_slice HO508.out;subst eo70)|((with_reducible refine gate_callee (f:=16) rfl ?_);refine goesL_ (some 79) rfl rfl Try.func16 zk rfl #[.int .i64 (wrap64 (1+t482)),.int .i64 t484,.slice Ao70 y506.length co70,.agg #[.int .i64 t501,.int .i64 t502,.int .i64 t503]] rfl zA ?_;(with_reducible refine (mixture_Mix.calls k1 (wrap64 (1+t482)) t484 _ _ y506 t501 t502 t503 t509 t510 t513 t514 t515 t516 _ ?side1 ?side2 A48.out).mono ?_);(case side1=>repeat (first|exact (Kd.N_reads' HO508.out).2.2|(with_reducible refine Kd.C_alloc ?_ _)|(with_reducible refine Kd.C_drewN ?_ _)|(with_reducible refine Kd.C_drew ?_)));(case side2=>exact (Kd.N_reads' HO508.out).2.1);rintro e w71 ⟨v511,rfl,ho0,hb⟩;refine ⟨_,rfl,?_⟩;replace HO_499001:=zo (Kd.V_elder' (zV HO_499001) (Kd.R_base ho0) hb);replace HO_499004:=zo (Kd.V_elder' (zV HO_499004) (Kd.R_base ho0) hb);replace HO508:=zo (Kd.N_elder' (zN HO508) (Kd.R_base ho0) hb);have HO512:=zo (Kd.R_lower ho0 (below_size (zI HB HI481)));replace BK492:=zo (blk_below (zB BK492) hb);replace BK498:=zo (blk_below (zB BK498) hb);replace BK505:=zo (blk_below (zB BK505) hb);replace HB:=zo (below_step (zI HB HI481) hb);replace HI481:=zo (IsS71.below (zJ HI481) hb);(try clear hb);(try clear ho0))|((with_reducible refine gate_dst (N:=13) rfl ?_);(try (refine gate_guard (by rfl) ?_;dsimp only));refine box_event ?hg (N:=13) ?hd (cs:=#[.int .i64 0,.slice none 0 0]) (t:=43) ?hr ?_;(case hd=>rfl);(case hg=>rfl);(case hr=>first|(go_simp;done)|(go_simp;rfl));intro gb517 hg w72 hbox hb;replace HO_499001:=zo (Kd.V_below (Kd.V_elderB (zV HO_499001) gb517 (Nat.le_of_eq hg.symm)) hb);replace HO_499004:=zo (Kd.V_below (Kd.V_elderB (zV HO_499004) gb517 (Nat.le_of_eq hg.symm)) hb);replace HO508:=zo (Kd.N_below (Kd.N_elderB (zN HO508) gb517 (Nat.le_of_eq hg.symm)) hb);replace HO512:=zo (Kd.R_below (zR HO512) hb);have BK517:=zo hbox;have GW517:=zo ((by rw [hg];exact (below_size (zI HB HI481)) : w.heap.size≤gb517));have GE517:=zo ((by rw [hg];exact (below_size (zI HB HI481)) : w.heap.size≤gb517));replace HB:=zo (below_step (zI HB HI481) hb);have NB492_517:=zo (zL hg BK492);have NB517_492:=zo (zG hg BK492);replace BK492:=zo (blk_below (zB BK492) hb);have NB498_517:=zo (zL hg BK498);have NB517_498:=zo (zG hg BK498);replace BK498:=zo (blk_below (zB BK498) hb);have NB505_517:=zo (zL hg BK505);have NB517_505:=zo (zG hg BK505);replace BK505:=zo (blk_below (zB BK505) hb);have NB481_517:=zo ((by rw [hg];exact Nat.ne_of_lt (IsS71.lt (show IsS71 w _ g481 t497 from zJ HI481)) : g481≠gb517));have NB517_481:=zo ((by rw [hg];exact Nat.ne_of_gt (IsS71.lt (show IsS71 w _ g481 t497 from zJ HI481)) : gb517≠g481));replace HI481:=zo (IsS71.below (zJ HI481) hb);clear hb hbox hg)|((with_reducible refine gate_dst (N:=14) rfl ?_);(try (refine gate_guard (by rfl) ?_;dsimp only));refine box_event ?hg (N:=14) ?hd (cs:=#[.int .i64 0,.int .i64 0,.int .i64 0]) (t:=24) ?hr ?_;(case hd=>rfl);(case hg=>rfl);(case hr=>first|(go_simp;done)|(go_simp;rfl));intro gb518 hg w73 hbox hb;replace HO_499001:=zo (Kd.V_below (Kd.V_elderB (zV HO_499001) gb518 (Nat.le_of_eq hg.symm)) hb);replace HO_499004:=zo (Kd.V_below (Kd.V_elderB (zV HO_499004) gb518 (Nat.le_of_eq hg.symm)) hb);replace HO508:=zo (Kd.N_below (Kd.N_elderB (zN HO508) gb518 (Nat.le_of_eq hg.symm)) hb);replace HO512:=zo (Kd.R_below (zR HO512) hb);have BK518:=zo hbox;have GW518:=zo ((by rw [hg];exact (below_size (zI HB HI481)) : w.heap.size≤gb518));have GE518:=zo ((by rw [hg];exact (below_size (zI HB HI481)) : w.heap.size≤gb518));replace HB:=zo (below_step (zI HB HI481) hb);have NB492_518:=zo (zL hg BK492);have NB518_492:=zo (zG hg BK492);replace BK492:=zo (blk_below (zB BK492) hb);have NB498_518:=zo (zL hg BK498);have NB518_498:=zo (zG hg BK498);replace BK498:=zo (blk_below (zB BK498) hb);have NB505_518:=zo (zL hg BK505);have NB518_505:=zo (zG hg BK505);replace BK505:=zo (blk_below (zB BK505) hb);have NB517_518:=zo (zL hg BK517);have NB518_517:=zo (zG hg BK517);replace BK517:=zo (blk_below (zB BK517) hb);have NB481_518:=zo ((by rw [hg];exact Nat.ne_of_lt (IsS71.lt (show IsS71 w _ g481 t497 from zJ HI481)) : g481≠gb518));have NB518_481:=zo ((by rw [hg];exact Nat.ne_of_gt (IsS71.lt (show IsS71 w _ g481 t497 from zJ HI481)) : gb518≠g481));replace HI481:=zo (IsS71.below (zJ HI481) hb);clear hb hbox hg;have hnb74:=NB517_492.out;have hnc74:=NB492_517.out;have hnb75:=NB517_498.out;have hnc75:=NB498_517.out;have hnb76:=NB517_505.out;have hnc76:=NB505_517.out;have hnb77:=NB517_518.out;have hnc77:=NB518_517.out;have hnb78:=NB517_481.out;have hnc78:=NB481_517.out;obtain ⟨hcz79_0,hfz79_0,hcz79_1,hfz79_1⟩:=zn2 BK517;obtain ⟨Ao80,co80,eo80⟩:=Kd.R_slice HO512.out;subst eo80;have hnb81:=NB518_492.out;have hnc81:=NB492_518.out;have hnb82:=NB518_498.out;have hnc82:=NB498_518.out;have hnb83:=NB518_505.out;have hnc83:=NB505_518.out;have hnb84:=NB518_481.out;have hnc84:=NB481_518.out;obtain ⟨hcz85_0,hfz85_0,hcz85_1,hfz85_1,hcz85_2,hfz85_2⟩:=zn3 BK518)|((with_reducible refine gate_callee (f:=12) rfl ?_);refine goesL_ (some 86) rfl rfl Try.func12 zk rfl #[.pointer (some ⟨g481,0,none⟩),.int .i64 (wrap64 (1+t482)),.int .i64 t484] rfl zA ?_;(with_reducible refine (soundservicelaw23_made.calls k1 g481 t497 (wrap64 (1+t482)) t484 t519 t522 w _ ?side1 ?side2 A49.out).mono ?_);(case side1=>exact zJ HI481);(case side2=>exact zI HB HI481);rintro e w86 ⟨v520,rfl,ho0,hi,hb,hk⟩;refine ⟨_,rfl,?_⟩;replace HO_499001:=zo (Kd.V_mono (Kd.V_told (Kd.V_oldK (Kd.V_mono (ok:=fun k_=>(((((k_≠gb492∧(k_≠gb498∧(k_≠gb505∧k_≠g481)))∧some k_≠(.slice Ao70 y506.length co70 : Value).ownBlock)∧some k_≠(.slice Ao80 t510.length co80 : Value).ownBlock)∧k_≠gb517)∧k_≠gb518)) (by (with_reducible repeat (first|apply Kd.V_alloc|apply Kd.V_drewN|apply Kd.V_drew));exact (Kd.V_mono (Kd.V_mono (Kd.V_far (p:=⟨gb518,2,none⟩) (Kd.V_far (p:=⟨gb518,1,none⟩) (Kd.V_far (p:=⟨gb518,0,none⟩) (Kd.V_far (p:=⟨gb517,1,none⟩) (Kd.V_far (p:=⟨gb517,0,none⟩) (Kd.V_mono (Kd.V_mono HO_499001.out (fun k_ hk=>(⟨hk,hk.1.2⟩ : _∧k_≠gb517))) (fun k_ hk=>(⟨hk,hk.1.2⟩ : _∧k_≠gb518))) (fun _ hk=>hk.1.2) (.int .i64 t509)) (fun _ hk=>hk.1.2) (.slice Ao80 t510.length co80)) (fun _ hk=>hk.2) (.int .i64 t513)) (fun _ hk=>hk.2) (.int .i64 t514)) (fun _ hk=>hk.2) (.int .i64 t515)) (fun _ h_=>h_.1)) (fun _ h_=>h_.1))) (fun k_ hk_=>(⟨hk_,hk_.1.1.1.1.2.2.2⟩ : _∧k_≠g481))) hk) (Kd.S_base ho0)) (fun _ h_=>h_.1));replace HO_499004:=zo (Kd.V_mono (Kd.V_told (Kd.V_oldK (Kd.V_mono (ok:=fun k_=>(((((some k_≠(.slice Ao24 x499001_1.length co24 : Value).ownBlock∧(k_≠gb492∧(k_≠gb498∧(k_≠gb505∧k_≠g481))))∧some k_≠(.slice Ao70 y506.length co70 : Value).ownBlock)∧some k_≠(.slice Ao80 t510.length co80 : Value).ownBlock)∧k_≠gb517)∧k_≠gb518)) (by (with_reducible repeat (first|apply Kd.V_alloc|apply Kd.V_drewN|apply Kd.V_drew));exact (Kd.V_mono (Kd.V_mono (Kd.V_far (p:=⟨gb518,2,none⟩) (Kd.V_far (p:=⟨gb518,1,none⟩) (Kd.V_far (p:=⟨gb518,0,none⟩) (Kd.V_far (p:=⟨gb517,1,none⟩) (Kd.V_far (p:=⟨gb517,0,none⟩) (Kd.V_mono (Kd.V_mono HO_499004.out (fun k_ hk=>(⟨hk,hk.1.2⟩ : _∧k_≠gb517))) (fun k_ hk=>(⟨hk,hk.1.2⟩ : _∧k_≠gb518))) (fun _ hk=>hk.1.2) (.int .i64 t509)) (fun _ hk=>hk.1.2) (.slice Ao80 t510.length co80)) (fun _ hk=>hk.2) (.int .i64 t513)) (fun _ hk=>hk.2) (.int .i64 t514)) (fun _ hk=>hk.2) (.int .i64 t515)) (fun _ h_=>h_.1)) (fun _ h_=>h_.1))) (fun k_ hk_=>(⟨hk_,hk_.1.1.1.1.2.2.2.2⟩ : _∧k_≠g481))) hk) (Kd.S_base ho0)) (fun _ h_=>h_.1));have HO521:=zo (Kd.N_lower (Kd.N_mono (ok':=fun k_=>some k_≠(.slice Ao70 y506.length co70 : Value).ownBlock∧some k_≠(.slice Ao80 t510.length co80 : Value).ownBlock∧k_≠gb492∧k_≠gb498∧k_≠gb505∧k_≠gb517∧k_≠gb518∧k_≠g481) (Kd.S_N (Kd.S_bound ho0)) (fun k_ hk_=>⟨(Kd.fresh' (Kd.N_lt (by (with_reducible repeat (first|apply Kd.N_alloc|apply Kd.N_drewN|apply Kd.N_drew));exact (Kd.N_mono (Kd.N_mono (Kd.N_far (p:=⟨gb518,2,none⟩) (Kd.N_far (p:=⟨gb518,1,none⟩) (Kd.N_far (p:=⟨gb518,0,none⟩) (Kd.N_far (p:=⟨gb517,1,none⟩) (Kd.N_far (p:=⟨gb517,0,none⟩) (Kd.N_mono (Kd.N_mono HO508.out (fun k_ hk=>(⟨hk,hk.1.2⟩ : _∧k_≠gb517))) (fun k_ hk=>(⟨hk,hk.1.2⟩ : _∧k_≠gb518))) (fun _ hk=>hk.1.2) (.int .i64 t509)) (fun _ hk=>hk.1.2) (.slice Ao80 t510.length co80)) (fun _ hk=>hk.2) (.int .i64 t513)) (fun _ hk=>hk.2) (.int .i64 t514)) (fun _ hk=>hk.2) (.int .i64 t515)) (fun _ h_=>h_.1)) (fun _ h_=>h_.1)))) k_ hk_.2.1),(Kd.fresh' (Kd.R_lt (by (with_reducible repeat (first|apply Kd.R_alloc|apply Kd.R_drewN|apply Kd.R_drew));exact (Kd.R_mono (Kd.R_mono (Kd.R_far (p:=⟨gb518,2,none⟩) (Kd.R_far (p:=⟨gb518,1,none⟩) (Kd.R_far (p:=⟨gb518,0,none⟩) (Kd.R_far (p:=⟨gb517,1,none⟩) (Kd.R_far (p:=⟨gb517,0,none⟩) (Kd.R_types (Kd.R_types HO512.out BK517.out (by decide)) BK518.out (by decide)) (fun _ hk=>hk.1.2) (.int .i64 t509)) (fun _ hk=>hk.1.2) (.slice Ao80 t510.length co80)) (fun _ hk=>hk.2) (.int .i64 t513)) (fun _ hk=>hk.2) (.int .i64 t514)) (fun _ hk=>hk.2) (.int .i64 t515)) (fun _ h_=>h_.1)) (fun _ h_=>h_.1)))) k_ hk_.2.1),(Kd.freshB (g:=gb492) (o:=.cells #[.int .i64 t486,.int .i64 t487,.slice Ao17 t488.length co17] 50 (0,0)) (zB BK492) k_ hk_.2.1),(Kd.freshB (g:=gb498) (o:=.cells #[.int .i64 t493,.slice Ao24 x499001_1.length co24,.int .i64 t486,.int .i64 t487,.slice Ao17 t488.length co17,.int .i64 65536,.int .i64 65536,.int .i64 0,.int .i64 0] 54 (0,0)) (zB BK498) k_ hk_.2.1),(Kd.freshB (g:=gb505) (o:=.cells #[.int .i64 t501,.int .i64 t502,.int .i64 t503] 24 (0,0)) (zB BK505) k_ hk_.2.1),(Kd.freshB (g:=gb517) (o:=.cells #[.int .i64 t509,.slice Ao80 t510.length co80] 43 (0,0)) (zB BK517) k_ hk_.2.1),(Kd.freshB (g:=gb518) (o:=.cells #[.int .i64 t513,.int .i64 t514,.int .i64 t515] 24 (0,0)) (zB BK518) k_ hk_.2.1),(IsS71.fresh (zJ HI481) k_ hk_.2.1)⟩)) (below_size (zI HB HI481)));replace BK492:=zo (KeepBut.blk hk (g':=gb492) (o:=.cells #[.int .i64 t486,.int .i64 t487,.slice Ao17 t488.length co17] 50 (0,0)) (zB BK492) NB492_481.out (by simp));replace BK498:=zo (KeepBut.blk hk (g':=gb498) (o:=.cells #[.int .i64 t493,.slice Ao24 x499001_1.length co24,.int .i64 t486,.int .i64 t487,.slice Ao17 t488.length co17,.int .i64 65536,.int .i64 65536,.int .i64 0,.int .i64 0] 54 (0,0)) (zB BK498) NB498_481.out (by simp));replace BK505:=zo (KeepBut.blk hk (g':=gb505) (o:=.cells #[.int .i64 t501,.int .i64 t502,.int .i64 t503] 24 (0,0)) (zB BK505) NB505_481.out (by simp));replace HO508:=zo (Kd.N_mono (Kd.N_told (Kd.N_oldK (Kd.N_mono (ok:=fun k_=>((((k_≠gb492∧(k_≠gb498∧(k_≠gb505∧k_≠g481)))∧some k_≠(.slice Ao80 t510.length co80 : Value).ownBlock)∧k_≠gb517)∧k_≠gb518)) (by (with_reducible repeat (first|apply Kd.N_alloc|apply Kd.N_drewN|apply Kd.N_drew));exact (Kd.N_mono (Kd.N_mono (Kd.N_far (p:=⟨gb518,2,none⟩) (Kd.N_far (p:=⟨gb518,1,none⟩) (Kd.N_far (p:=⟨gb518,0,none⟩) (Kd.N_far (p:=⟨gb517,1,none⟩) (Kd.N_far (p:=⟨gb517,0,none⟩) (Kd.N_mono (Kd.N_mono HO508.out (fun k_ hk=>(⟨hk,hk.1.2⟩ : _∧k_≠gb517))) (fun k_ hk=>(⟨hk,hk.1.2⟩ : _∧k_≠gb518))) (fun _ hk=>hk.1.2) (.int .i64 t509)) (fun _ hk=>hk.1.2) (.slice Ao80 t510.length co80)) (fun _ hk=>hk.2) (.int .i64 t513)) (fun _ hk=>hk.2) (.int .i64 t514)) (fun _ hk=>hk.2) (.int .i64 t515)) (fun _ h_=>h_.1)) (fun _ h_=>h_.1))) (fun k_ hk_=>(⟨hk_,hk_.1.1.1.2.2.2⟩ : _∧k_≠g481))) hk) (Kd.S_base ho0)) (fun _ h_=>h_.1));replace HO512:=zo (Kd.R_mono (Kd.R_keep (IsS71.apart (show IsS71 w _ g481 t497 from zJ HI481) (by (with_reducible repeat (first|apply Kd.R_alloc|apply Kd.R_drewN|apply Kd.R_drew));exact (Kd.R_mono (Kd.R_mono (Kd.R_far (p:=⟨gb518,2,none⟩) (Kd.R_far (p:=⟨gb518,1,none⟩) (Kd.R_far (p:=⟨gb518,0,none⟩) (Kd.R_far (p:=⟨gb517,1,none⟩) (Kd.R_far (p:=⟨gb517,0,none⟩) (Kd.R_types (Kd.R_types HO512.out BK517.out (by decide)) BK518.out (by decide)) (fun _ hk=>hk.1.2) (.int .i64 t509)) (fun _ hk=>hk.1.2) (.slice Ao80 t510.length co80)) (fun _ hk=>hk.2) (.int .i64 t513)) (fun _ hk=>hk.2) (.int .i64 t514)) (fun _ hk=>hk.2) (.int .i64 t515)) (fun _ h_=>h_.1)) (fun _ h_=>h_.1))) (by decide)) hk (fun _ h=>h.2)) (fun _ h=>h.1));replace BK517:=zo (KeepBut.blk hk (g':=gb517) (o:=.cells #[.int .i64 t509,.slice Ao80 t510.length co80] 43 (0,0)) (zB BK517) NB517_481.out (by simp));replace BK518:=zo (KeepBut.blk hk (g':=gb518) (o:=.cells #[.int .i64 t513,.int .i64 t514,.int .i64 t515] 24 (0,0)) (zB BK518) NB518_481.out (by simp));replace HB:=zo hb;replace HI481:=zo hi;(try clear hb))|((with_reducible refine gate_callee (f:=12) rfl ?_);refine goesL_ (some 90) rfl rfl Try.func12 zk rfl #[.pointer (some ⟨g481,0,none⟩),.int .i64 (wrap64 (1+t482)),.int .i64 t484] rfl zA ?_;(with_reducible refine (soundservicelaw23_made.calls k1 g481 t522 (wrap64 (1+t482)) t484 t523 t526 w _ ?side1 ?side2 A50.out).mono ?_);(case side1=>exact zJ HI481);(case side2=>exact zI HB HI481);rintro e w87 ⟨v524,rfl,ho0,hi,hb,hk⟩;refine ⟨_,rfl,?_⟩;replace HO_499001:=zo (Kd.V_mono (Kd.V_told (Kd.V_oldK (Kd.V_mono (ok:=fun k_=>((((((k_≠gb492∧(k_≠gb498∧(k_≠gb505∧k_≠g481)))∧some k_≠(.slice Ao70 y506.length co70 : Value).ownBlock)∧some k_≠(.slice Ao80 t510.length co80 : Value).ownBlock)∧k_≠gb517)∧k_≠gb518)∧some k_≠(v520 : Value).ownBlock)) (zV HO_499001) (fun k_ hk_=>(⟨hk_,hk_.1.1.1.1.1.2.2.2⟩ : _∧k_≠g481))) hk) (Kd.S_base ho0)) (fun _ h_=>h_.1));replace HO_499004:=zo (Kd.V_mono (Kd.V_told (Kd.V_oldK (Kd.V_mono (ok:=fun k_=>((((((some k_≠(.slice Ao24 x499001_1.length co24 : Value).ownBlock∧(k_≠gb492∧(k_≠gb498∧(k_≠gb505∧k_≠g481))))∧some k_≠(.slice Ao70 y506.length co70 : Value).ownBlock)∧some k_≠(.slice Ao80 t510.length co80 : Value).ownBlock)∧k_≠gb517)∧k_≠gb518)∧some k_≠(v520 : Value).ownBlock)) (zV HO_499004) (fun k_ hk_=>(⟨hk_,hk_.1.1.1.1.1.2.2.2.2⟩ : _∧k_≠g481))) hk) (Kd.S_base ho0)) (fun _ h_=>h_.1));have HO525:=zo (Kd.N_lower (Kd.N_mono (ok':=fun k_=>some k_≠(.slice Ao70 y506.length co70 : Value).ownBlock∧some k_≠(.slice Ao80 t510.length co80 : Value).ownBlock∧some k_≠(v520 : Value).ownBlock∧k_≠gb492∧k_≠gb498∧k_≠gb505∧k_≠gb517∧k_≠gb518∧k_≠g481) (Kd.S_N (Kd.S_bound ho0)) (fun k_ hk_=>⟨(Kd.fresh' (Kd.N_lt (zN HO508)) k_ hk_.2.1),(Kd.fresh' (Kd.R_lt (zR HO512)) k_ hk_.2.1),(Kd.fresh' (Kd.N_lt (zN HO521)) k_ hk_.2.1),(Kd.freshB (g:=gb492) (o:=.cells #[.int .i64 t486,.int .i64 t487,.slice Ao17 t488.length co17] 50 (0,0)) (zB BK492) k_ hk_.2.1),(Kd.freshB (g:=gb498) (o:=.cells #[.int .i64 t493,.slice Ao24 x499001_1.length co24,.int .i64 t486,.int .i64 t487,.slice Ao17 t488.length co17,.int .i64 65536,.int .i64 65536,.int .i64 0,.int .i64 0] 54 (0,0)) (zB BK498) k_ hk_.2.1),(Kd.freshB (g:=gb505) (o:=.cells #[.int .i64 t501,.int .i64 t502,.int .i64 t503] 24 (0,0)) (zB BK505) k_ hk_.2.1),(Kd.freshB (g:=gb517) (o:=.cells #[.int .i64 t509,.slice Ao80 t510.length co80] 43 (0,0)) (zB BK517) k_ hk_.2.1),(Kd.freshB (g:=gb518) (o:=.cells #[.int .i64 t513,.int .i64 t514,.int .i64 t515] 24 (0,0)) (zB BK518) k_ hk_.2.1),(IsS71.fresh (zJ HI481) k_ hk_.2.1)⟩)) (below_size (zI HB HI481)));replace BK492:=zo (KeepBut.blk hk (g':=gb492) (o:=.cells #[.int .i64 t486,.int .i64 t487,.slice Ao17 t488.length co17] 50 (0,0)) (zB BK492) NB492_481.out (by simp));replace BK498:=zo (KeepBut.blk hk (g':=gb498) (o:=.cells #[.int .i64 t493,.slice Ao24 x499001_1.length co24,.int .i64 t486,.int .i64 t487,.slice Ao17 t488.length co17,.int .i64 65536,.int .i64 65536,.int .i64 0,.int .i64 0] 54 (0,0)) (zB BK498) NB498_481.out (by simp));replace BK505:=zo (KeepBut.blk hk (g':=gb505) (o:=.cells #[.int .i64 t501,.int .i64 t502,.int .i64 t503] 24 (0,0)) (zB BK505) NB505_481.out (by simp));replace HO508:=zo (Kd.N_mono (Kd.N_told (Kd.N_oldK (Kd.N_mono (ok:=fun k_=>(((((k_≠gb492∧(k_≠gb498∧(k_≠gb505∧k_≠g481)))∧some k_≠(.slice Ao80 t510.length co80 : Value).ownBlock)∧k_≠gb517)∧k_≠gb518)∧some k_≠(v520 : Value).ownBlock)) (zN HO508) (fun k_ hk_=>(⟨hk_,hk_.1.1.1.1.2.2.2⟩ : _∧k_≠g481))) hk) (Kd.S_base ho0)) (fun _ h_=>h_.1));replace HO512:=zo (Kd.R_mono (Kd.R_keep (IsS71.apart (show IsS71 w _ g481 t522 from zJ HI481) (zR HO512) (by decide)) hk (fun _ h=>h.2)) (fun _ h=>h.1));replace BK517:=zo (KeepBut.blk hk (g':=gb517) (o:=.cells #[.int .i64 t509,.slice Ao80 t510.length co80] 43 (0,0)) (zB BK517) NB517_481.out (by simp));replace BK518:=zo (KeepBut.blk hk (g':=gb518) (o:=.cells #[.int .i64 t513,.int .i64 t514,.int .i64 t515] 24 (0,0)) (zB BK518) NB518_481.out (by simp));replace HO521:=zo (Kd.N_mono (Kd.N_told (Kd.N_oldK (Kd.N_mono (ok:=fun k_=>(some k_≠(.slice Ao70 y506.length co70 : Value).ownBlock∧(some k_≠(.slice Ao80 t510.length co80 : Value).ownBlock∧(k_≠gb492∧(k_≠gb498∧(k_≠gb505∧(k_≠gb517∧(k_≠gb518∧k_≠g481)))))))) (zN HO521) (fun k_ hk_=>(⟨hk_,hk_.2.2.2.2.2.2.2⟩ : _∧k_≠g481))) hk) (Kd.S_base ho0)) (fun _ h_=>h_.1));replace HB:=zo hb;replace HI481:=zo hi;(try clear hb);(try clear hk);(try clear hi);(try clear ho0);obtain ⟨Ao88,co88,eo88⟩:=Kd.N_slice HO521.out;subst eo88)|((with_reducible refine gate_callee (f:=14) rfl ?_);refine goesL_ (some 95) rfl rfl Try.func14 zk rfl #[.int .i64 (wrap64 (1+t482)),.int .i64 t484,.slice Ao88 t519.length co88] rfl zA ?_;(with_reducible refine (mixture_Sum.calls k1 (wrap64 (1+t482)) t484 _ _ t519 t527 t528 _ ?side1 ?side2 A51.out).mono ?_);(case side1=>repeat (first|exact (Kd.N_reads' HO521.out).2.2|(with_reducible refine Kd.C_alloc ?_ _)|(with_reducible refine Kd.C_drewN ?_ _)|(with_reducible refine Kd.C_drew ?_)));(case side2=>exact (Kd.N_reads' HO521.out).2.1);rintro e w89 ⟨v529,rfl,ho0,hb⟩;refine ⟨_,rfl,?_⟩;replace HO_499001:=zo (Kd.V_elder' (zV HO_499001) (Kd.R_base ho0) hb);replace HO_499004:=zo (Kd.V_elder' (zV HO_499004) (Kd.R_base ho0) hb);replace HO508:=zo (Kd.N_elder' (zN HO508) (Kd.R_base ho0) hb);replace HO512:=zo (Kd.R_below (zR HO512) hb);replace HO521:=zo (Kd.N_elder' (zN HO521) (Kd.R_base ho0) hb);replace HO525:=zo (Kd.N_elder' (zN HO525) (Kd.R_base ho0) hb);have HO530:=zo (Kd.R_lower ho0 (below_size (zI HB HI481)));replace BK492:=zo (blk_below (zB BK492) hb);replace BK498:=zo (blk_below (zB BK498) hb);replace BK505:=zo (blk_below (zB BK505) hb);replace BK517:=zo (blk_below (zB BK517) hb);replace BK518:=zo (blk_below (zB BK518) hb);replace HB:=zo (below_step (zI HB HI481) hb);replace HI481:=zo (IsS71.below (zJ HI481) hb);(try clear hb);(try clear ho0);obtain ⟨Ao90,co90,eo90⟩:=Kd.N_slice HO525.out;subst eo90)|((with_reducible refine gate_callee (f:=14) rfl ?_);refine goesL_ (some 102) rfl rfl Try.func14 zk rfl #[.int .i64 (wrap64 (1+t482)),.int .i64 t484,.slice Ao90 t523.length co90] rfl zA ?_;(with_reducible refine (mixture_Sum.calls k1 (wrap64 (1+t482)) t484 _ _ t523 t531 t532 _ ?side1 ?side2 A52.out).mono ?_);(case side1=>repeat (first|exact (Kd.N_reads' HO525.out).2.2|(with_reducible refine Kd.C_alloc ?_ _)|(with_reducible refine Kd.C_drewN ?_ _)|(with_reducible refine Kd.C_drew ?_)));(case side2=>exact (Kd.N_reads' HO525.out).2.1);rintro e w91 ⟨v533,rfl,ho0,hb⟩;refine ⟨_,rfl,?_⟩;replace HO_499001:=zo (Kd.V_elder' (zV HO_499001) (Kd.R_base ho0) hb);replace HO_499004:=zo (Kd.V_elder' (zV HO_499004) (Kd.R_base ho0) hb);replace HO508:=zo (Kd.N_elder' (zN HO508) (Kd.R_base ho0) hb);replace HO512:=zo (Kd.R_below (zR HO512) hb);replace HO521:=zo (Kd.N_elder' (zN HO521) (Kd.R_base ho0) hb);replace HO525:=zo (Kd.N_elder' (zN HO525) (Kd.R_base ho0) hb);have HO534:=zo (Kd.R_lower (Kd.R_new' ho0 (Kd.R_lt (zR HO530))) (below_size (zI HB HI481)));replace HO530:=zo (Kd.R_elder' (zR HO530) (Kd.R_base ho0) hb);replace BK492:=zo (blk_below (zB BK492) hb);replace BK498:=zo (blk_below (zB BK498) hb);replace BK505:=zo (blk_below (zB BK505) hb);replace BK517:=zo (blk_below (zB BK517) hb);replace BK518:=zo (blk_below (zB BK518) hb);replace HB:=zo (below_step (zI HB HI481) hb);replace HI481:=zo (IsS71.below (zJ HI481) hb);(try clear hb);(try clear ho0))|((with_reducible refine gate_builtin (b:=.append) (xs:=#[(.const (.slice none 0 0)),(.tmp 108)]) rfl ?_);(try (refine gate_guard (by rfl) ?_;dsimp only));at_builtin;refine Kd.N_append_rows k54 (w0:=w) w.heap.size rfl (.const (.slice none 0 0)) (.tmp 108) 22 54 (.agg #[(.int .i64 0),(.slice none 0 0),(.int .i64 0),(.int .i64 0),(.slice none 0 0),(.int .i64 0),(.int .i64 0),(.int .i64 0),(.int .i64 0)]) 104 rfl Try.underlying22 info54 rfl (by decide) (by omega) (.slice none 0 0) ([] : List (S54)) t519 _ _ _ (fun k_=>some k_≠(.slice Ao70 y506.length co70 : Value).ownBlock∧some k_≠(.slice Ao80 t510.length co80 : Value).ownBlock∧some k_≠(.slice Ao90 t523.length co90 : Value).ownBlock∧some k_≠(v529 : Value).ownBlock∧some k_≠(v533 : Value).ownBlock∧k_≠gb492∧k_≠gb498∧k_≠gb505∧k_≠gb517∧k_≠gb518∧k_≠g481) (fun k_=>((fun k_=>some k_≠(.slice Ao70 y506.length co70 : Value).ownBlock∧some k_≠(.slice Ao80 t510.length co80 : Value).ownBlock∧some k_≠(.slice Ao90 t523.length co90 : Value).ownBlock∧some k_≠(v529 : Value).ownBlock∧some k_≠(v533 : Value).ownBlock∧k_≠gb492∧k_≠gb498∧k_≠gb505∧k_≠gb517∧k_≠gb518∧k_≠g481)) k_∧some k_≠(.slice none 0 0 : Value).ownBlock) rfl rfl ?aO ?aR (fun _ hk=>hk) ?aF ?aB ?aS ?aL ?_;(case aR=>exact (by skip;exact Kd.N_F (Kd.N_mono (ok':=(fun k_=>((fun k_=>some k_≠(.slice Ao70 y506.length co70 : Value).ownBlock∧some k_≠(.slice Ao80 t510.length co80 : Value).ownBlock∧some k_≠(.slice Ao90 t523.length co90 : Value).ownBlock∧some k_≠(v529 : Value).ownBlock∧some k_≠(v533 : Value).ownBlock∧k_≠gb492∧k_≠gb498∧k_≠gb505∧k_≠gb517∧k_≠gb518∧k_≠g481)) k_∧some k_≠(.slice none 0 0 : Value).ownBlock)) (HO521.out) (fun k_ hk=>⟨⟨hk.1.1.1.1,⟨hk.1.1.1.2.1,⟨hk.1.1.2,⟨hk.1.2,⟨hk.2,⟨hk.1.1.1.2.2.1,⟨hk.1.1.1.2.2.2.1,⟨hk.1.1.1.2.2.2.2.1,⟨hk.1.1.1.2.2.2.2.2.1,⟨hk.1.1.1.2.2.2.2.2.2.1,hk.1.1.1.2.2.2.2.2.2.2⟩⟩⟩⟩⟩⟩⟩⟩⟩⟩,(by simp [Value.ownBlock])⟩))));(case aB=>exact (zI HB HI481));(case aF=>exact (fun k_ hk=>⟨Kd.fresh' (Kd.N_lt (zN HO508)) k_ hk,Kd.fresh' (Kd.R_lt (zR HO512)) k_ hk,Kd.fresh' (Kd.N_lt (zN HO525)) k_ hk,Kd.fresh' (Kd.R_lt (zR HO530)) k_ hk,Kd.fresh' (Kd.R_lt (zR HO534)) k_ hk,Kd.freshB (g:=gb492) (o:=.cells #[.int .i64 t486,.int .i64 t487,.slice Ao17 t488.length co17] 50 (0,0)) (zB BK492) k_ hk,Kd.freshB (g:=gb498) (o:=.cells #[.int .i64 t493,.slice Ao24 x499001_1.length co24,.int .i64 t486,.int .i64 t487,.slice Ao17 t488.length co17,.int .i64 65536,.int .i64 65536,.int .i64 0,.int .i64 0] 54 (0,0)) (zB BK498) k_ hk,Kd.freshB (g:=gb505) (o:=.cells #[.int .i64 t501,.int .i64 t502,.int .i64 t503] 24 (0,0)) (zB BK505) k_ hk,Kd.freshB (g:=gb517) (o:=.cells #[.int .i64 t509,.slice Ao80 t510.length co80] 43 (0,0)) (zB BK517) k_ hk,Kd.freshB (g:=gb518) (o:=.cells #[.int .i64 t513,.int .i64 t514,.int .i64 t515] 24 (0,0)) (zB BK518) k_ hk,IsS71.fresh (zJ HI481) k_ hk⟩));(case aO=>exact ((Kd.N_nil _ _ _ _ (fun k_=>some k_≠(.slice Ao70 y506.length co70 : Value).ownBlock∧some k_≠(.slice Ao80 t510.length co80 : Value).ownBlock∧some k_≠(.slice Ao90 t523.length co90 : Value).ownBlock∧some k_≠(v529 : Value).ownBlock∧some k_≠(v533 : Value).ownBlock∧k_≠gb492∧k_≠gb498∧k_≠gb505∧k_≠gb517∧k_≠gb518∧k_≠g481))));(case aS=>exact (below_size (zI HB HI481)));(case aL=>have:=LMc53.out;omega);intro v536 w92 ho hb hg hat;rw [← Ny535.out] at ho;replace HO_499001:=zo (Kd.V_afterv (Kd.V_apart_nil (zV HO_499001)) hg hat);replace HO_499004:=zo (Kd.V_afterv (Kd.V_apart_nil (zV HO_499004)) hg hat);replace BK492:=zo (blk_grown (zB BK492) hg (by simp [Value.ownBlock]));replace BK498:=zo (blk_grown (zB BK498) hg (by simp [Value.ownBlock]));replace HI481:=zo (IsS71.grown (zJ HI481) hg (by simp [Value.ownBlock]));replace BK505:=zo (blk_grown (zB BK505) hg (by simp [Value.ownBlock]));replace HO508:=zo (Kd.N_afterv (Kd.N_apart_nil (zN HO508)) hg hat);replace HO512:=zo (Kd.R_grown (zR HO512) hg (fun _ _=>by simp [Value.ownBlock]));replace BK517:=zo (blk_grown (zB BK517) hg (by simp [Value.ownBlock]));replace BK518:=zo (blk_grown (zB BK518) hg (by simp [Value.ownBlock]));replace HO521:=zo (Kd.N_afterv (Kd.N_apart_nil (zN HO521)) hg hat);replace HO525:=zo (Kd.N_afterv (Kd.N_apart_nil (zN HO525)) hg hat);replace HO530:=zo (Kd.R_grown (zR HO530) hg (fun _ _=>by simp [Value.ownBlock]));replace HO534:=zo (Kd.R_grown (zR HO534) hg (fun _ _=>by simp [Value.ownBlock]));replace HB:=zo hb;have HO537:=zo ho;clear ho hb hg hat)|((with_reducible refine gate_builtin (b:=.append) (xs:=#[(.tmp 109),(.tmp 110)]) rfl ?_);(try (refine gate_guard (by rfl) ?_;dsimp only));at_builtin;refine Kd.N_append_rows k54 (w0:=w) w.heap.size rfl (.tmp 109) (.tmp 110) 22 54 (.agg #[(.int .i64 0),(.slice none 0 0),(.int .i64 0),(.int .i64 0),(.slice none 0 0),(.int .i64 0),(.int .i64 0),(.int .i64 0),(.int .i64 0)]) 104 rfl Try.underlying22 info54 rfl (by decide) (by omega) v536 y535 t523 _ _ _ (fun k_=>some k_≠(.slice Ao70 y506.length co70 : Value).ownBlock∧some k_≠(.slice Ao80 t510.length co80 : Value).ownBlock∧some k_≠(v529 : Value).ownBlock∧some k_≠(v533 : Value).ownBlock∧k_≠gb492∧k_≠gb498∧k_≠gb505∧k_≠gb517∧k_≠gb518∧k_≠g481) (fun k_=>((fun k_=>some k_≠(.slice Ao70 y506.length co70 : Value).ownBlock∧some k_≠(.slice Ao80 t510.length co80 : Value).ownBlock∧some k_≠(v529 : Value).ownBlock∧some k_≠(v533 : Value).ownBlock∧k_≠gb492∧k_≠gb498∧k_≠gb505∧k_≠gb517∧k_≠gb518∧k_≠g481)) k_∧some k_≠(v536 : Value).ownBlock) rfl rfl ?aO ?aR (fun _ hk=>hk) ?aF ?aB ?aS ?aL ?_;(case aR=>exact (by skip;exact Kd.N_F (Kd.N_mono (ok':=(fun k_=>((fun k_=>some k_≠(.slice Ao70 y506.length co70 : Value).ownBlock∧some k_≠(.slice Ao80 t510.length co80 : Value).ownBlock∧some k_≠(v529 : Value).ownBlock∧some k_≠(v533 : Value).ownBlock∧k_≠gb492∧k_≠gb498∧k_≠gb505∧k_≠gb517∧k_≠gb518∧k_≠g481)) k_∧some k_≠(v536 : Value).ownBlock)) (HO525.out) (fun k_ hk=>⟨⟨hk.1.1.1.1,⟨hk.1.1.1.2.1,⟨hk.1.1.2,⟨hk.1.2,⟨hk.1.1.1.2.2.2.1,⟨hk.1.1.1.2.2.2.2.1,⟨hk.1.1.1.2.2.2.2.2.1,⟨hk.1.1.1.2.2.2.2.2.2.1,⟨hk.1.1.1.2.2.2.2.2.2.2.1,hk.1.1.1.2.2.2.2.2.2.2.2⟩⟩⟩⟩⟩⟩⟩⟩⟩,hk.2⟩))));(case aB=>exact (zI HB HI481));(case aF=>exact (fun k_ hk=>⟨Kd.fresh' (Kd.N_lt (zN HO508)) k_ hk,Kd.fresh' (Kd.R_lt (zR HO512)) k_ hk,Kd.fresh' (Kd.R_lt (zR HO530)) k_ hk,Kd.fresh' (Kd.R_lt (zR HO534)) k_ hk,Kd.freshB (g:=gb492) (o:=.cells #[.int .i64 t486,.int .i64 t487,.slice Ao17 t488.length co17] 50 (0,0)) (zB BK492) k_ hk,Kd.freshB (g:=gb498) (o:=.cells #[.int .i64 t493,.slice Ao24 x499001_1.length co24,.int .i64 t486,.int .i64 t487,.slice Ao17 t488.length co17,.int .i64 65536,.int .i64 65536,.int .i64 0,.int .i64 0] 54 (0,0)) (zB BK498) k_ hk,Kd.freshB (g:=gb505) (o:=.cells #[.int .i64 t501,.int .i64 t502,.int .i64 t503] 24 (0,0)) (zB BK505) k_ hk,Kd.freshB (g:=gb517) (o:=.cells #[.int .i64 t509,.slice Ao80 t510.length co80] 43 (0,0)) (zB BK517) k_ hk,Kd.freshB (g:=gb518) (o:=.cells #[.int .i64 t513,.int .i64 t514,.int .i64 t515] 24 (0,0)) (zB BK518) k_ hk,IsS71.fresh (zJ HI481) k_ hk⟩));(case aO=>exact (by (with_reducible repeat (first|apply Kd.N_alloc|apply Kd.N_drewN|apply Kd.N_drew));exact Kd.N_mono HO537.out (fun _ hk=>⟨hk.1,⟨hk.2.1,⟨hk.2.2.2.1,⟨hk.2.2.2.2.1,⟨hk.2.2.2.2.2.1,⟨hk.2.2.2.2.2.2.1,⟨hk.2.2.2.2.2.2.2.1,⟨hk.2.2.2.2.2.2.2.2.1,⟨hk.2.2.2.2.2.2.2.2.2.1,hk.2.2.2.2.2.2.2.2.2.2⟩⟩⟩⟩⟩⟩⟩⟩⟩)));(case aS=>exact (below_size (zI HB HI481)));(case aL=>have:=LMc54.out;omega);intro v539 w93 ho hb hg hat;rw [← Ny538.out] at ho;replace HO_499001:=zo (Kd.V_afterv (ok:=(fun k_=>some k_≠(.slice Ao70 y506.length co70 : Value).ownBlock∧some k_≠(.slice Ao80 t510.length co80 : Value).ownBlock∧some k_≠(.slice Ao88 t519.length co88 : Value).ownBlock∧some k_≠(.slice Ao90 t523.length co90 : Value).ownBlock∧some k_≠(v529 : Value).ownBlock∧some k_≠(v533 : Value).ownBlock∧k_≠gb492∧k_≠gb498∧k_≠gb505∧k_≠g481∧k_≠gb517∧k_≠gb518)) (by (with_reducible repeat (first|apply Kd.V_alloc|apply Kd.V_drewN|apply Kd.V_drew));exact Kd.V_mono HO_499001.out (fun _ hk=>⟨⟨hk.1.1.1.1.1.1.1.1.2,⟨hk.1.1.1.1.1.1.1.2,⟨hk.1.1.1.1.2,⟨hk.1.1.1.2,⟨hk.1.1.2,⟨hk.1.2,⟨hk.1.1.1.1.1.1.1.1.1.1,⟨hk.1.1.1.1.1.1.1.1.1.2.1,⟨hk.1.1.1.1.1.1.1.1.1.2.2.1,⟨hk.1.1.1.1.1.1.1.1.1.2.2.2,⟨hk.1.1.1.1.1.1.2,hk.1.1.1.1.1.2⟩⟩⟩⟩⟩⟩⟩⟩⟩⟩⟩,hk.2⟩)) hg hat);replace HO_499004:=zo (Kd.V_afterv (ok:=(fun k_=>some k_≠(.slice Ao24 x499001_1.length co24 : Value).ownBlock∧some k_≠(.slice Ao70 y506.length co70 : Value).ownBlock∧some k_≠(.slice Ao80 t510.length co80 : Value).ownBlock∧some k_≠(.slice Ao88 t519.length co88 : Value).ownBlock∧some k_≠(.slice Ao90 t523.length co90 : Value).ownBlock∧some k_≠(v529 : Value).ownBlock∧some k_≠(v533 : Value).ownBlock∧k_≠gb492∧k_≠gb498∧k_≠gb505∧k_≠g481∧k_≠gb517∧k_≠gb518)) (by (with_reducible repeat (first|apply Kd.V_alloc|apply Kd.V_drewN|apply Kd.V_drew));exact Kd.V_mono HO_499004.out (fun _ hk=>⟨⟨hk.1.1.1.1.1.1.1.1.1.1,⟨hk.1.1.1.1.1.1.1.1.2,⟨hk.1.1.1.1.1.1.1.2,⟨hk.1.1.1.1.2,⟨hk.1.1.1.2,⟨hk.1.1.2,⟨hk.1.2,⟨hk.1.1.1.1.1.1.1.1.1.2.1,⟨hk.1.1.1.1.1.1.1.1.1.2.2.1,⟨hk.1.1.1.1.1.1.1.1.1.2.2.2.1,⟨hk.1.1.1.1.1.1.1.1.1.2.2.2.2,⟨hk.1.1.1.1.1.1.2,hk.1.1.1.1.1.2⟩⟩⟩⟩⟩⟩⟩⟩⟩⟩⟩⟩,hk.2⟩)) hg hat);replace BK492:=zo (blk_grown (zB BK492) hg (Kd.N_ne HO537.out BK492.out (by decide)));replace BK498:=zo (blk_grown (zB BK498) hg (Kd.N_away HO537.out (fun _ hk=>hk.2.2.2.2.2.2.1)));replace HI481:=zo (IsS71.grown (zJ HI481) hg (IsS71.own_neN HI481.out HO537.out (by decide)));replace BK505:=zo (blk_grown (zB BK505) hg (Kd.N_ne HO537.out BK505.out (by decide)));replace HO508:=zo (Kd.N_afterv (ok:=(fun k_=>some k_≠(.slice Ao80 t510.length co80 : Value).ownBlock∧some k_≠(.slice Ao88 t519.length co88 : Value).ownBlock∧some k_≠(.slice Ao90 t523.length co90 : Value).ownBlock∧some k_≠(v529 : Value).ownBlock∧some k_≠(v533 : Value).ownBlock∧k_≠gb492∧k_≠gb498∧k_≠gb505∧k_≠g481∧k_≠gb517∧k_≠gb518)) (by (with_reducible repeat (first|apply Kd.N_alloc|apply Kd.N_drewN|apply Kd.N_drew));exact Kd.N_mono HO508.out (fun _ hk=>⟨⟨hk.1.1.1.1.1.1.1.2,⟨hk.1.1.1.1.2,⟨hk.1.1.1.2,⟨hk.1.1.2,⟨hk.1.2,⟨hk.1.1.1.1.1.1.1.1.1,⟨hk.1.1.1.1.1.1.1.1.2.1,⟨hk.1.1.1.1.1.1.1.1.2.2.1,⟨hk.1.1.1.1.1.1.1.1.2.2.2,⟨hk.1.1.1.1.1.1.2,hk.1.1.1.1.1.2⟩⟩⟩⟩⟩⟩⟩⟩⟩⟩,hk.2⟩)) hg hat);replace HO512:=zo (Kd.R_over' (zR HO512) (Kd.N_typed (zN HO537)) (by decide) hg);replace BK517:=zo (blk_grown (zB BK517) hg (Kd.N_ne HO537.out BK517.out (by decide)));replace BK518:=zo (blk_grown (zB BK518) hg (Kd.N_ne HO537.out BK518.out (by decide)));replace HO521:=zo (Kd.N_afterv (ok:=(fun k_=>some k_≠(.slice Ao70 y506.length co70 : Value).ownBlock∧some k_≠(.slice Ao80 t510.length co80 : Value).ownBlock∧some k_≠(.slice Ao90 t523.length co90 : Value).ownBlock∧some k_≠(v529 : Value).ownBlock∧some k_≠(v533 : Value).ownBlock∧k_≠gb492∧k_≠gb498∧k_≠gb505∧k_≠gb517∧k_≠gb518∧k_≠g481)) (by (with_reducible repeat (first|apply Kd.N_alloc|apply Kd.N_drewN|apply Kd.N_drew));exact Kd.N_mono HO521.out (fun _ hk=>⟨⟨hk.1.1.1.1.1,⟨hk.1.1.1.1.2.1,⟨hk.1.1.1.2,⟨hk.1.1.2,⟨hk.1.2,⟨hk.1.1.1.1.2.2.1,⟨hk.1.1.1.1.2.2.2.1,⟨hk.1.1.1.1.2.2.2.2.1,⟨hk.1.1.1.1.2.2.2.2.2.1,⟨hk.1.1.1.1.2.2.2.2.2.2.1,hk.1.1.1.1.2.2.2.2.2.2.2⟩⟩⟩⟩⟩⟩⟩⟩⟩⟩,hk.2⟩)) hg hat);replace HO525:=zo (Kd.N_afterv (ok:=(fun k_=>some k_≠(.slice Ao70 y506.length co70 : Value).ownBlock∧some k_≠(.slice Ao80 t510.length co80 : Value).ownBlock∧some k_≠(.slice Ao88 t519.length co88 : Value).ownBlock∧some k_≠(v529 : Value).ownBlock∧some k_≠(v533 : Value).ownBlock∧k_≠gb492∧k_≠gb498∧k_≠gb505∧k_≠gb517∧k_≠gb518∧k_≠g481)) (by (with_reducible repeat (first|apply Kd.N_alloc|apply Kd.N_drewN|apply Kd.N_drew));exact Kd.N_mono HO525.out (fun _ hk=>⟨⟨hk.1.1.1.1,⟨hk.1.1.1.2.1,⟨hk.1.1.1.2.2.1,⟨hk.1.1.2,⟨hk.1.2,⟨hk.1.1.1.2.2.2.1,⟨hk.1.1.1.2.2.2.2.1,⟨hk.1.1.1.2.2.2.2.2.1,⟨hk.1.1.1.2.2.2.2.2.2.1,⟨hk.1.1.1.2.2.2.2.2.2.2.1,hk.1.1.1.2.2.2.2.2.2.2.2⟩⟩⟩⟩⟩⟩⟩⟩⟩⟩,hk.2⟩)) hg hat);replace HO530:=zo (Kd.R_over' (zR HO530) (Kd.N_typed (zN HO537)) (by decide) hg);replace HO534:=zo (Kd.R_over' (zR HO534) (Kd.N_typed (zN HO537)) (by decide) hg);replace HB:=zo hb;have HO540:=zo ho;clear HO537;clear ho hb hg hat;obtain ⟨Ao94,co94,eo94⟩:=Kd.N_slice HO540.out;subst eo94)|((with_reducible refine gate_callee (f:=14) rfl ?_);refine goesL_ (some 112) rfl rfl Try.func14 zk rfl #[.int .i64 (wrap64 (1+t482)),.int .i64 t484,.slice Ao94 y538.length co94] rfl zA ?_;(with_reducible refine (mixture_Sum.calls k1 (wrap64 (1+t482)) t484 _ _ y538 t541 t542 _ ?side1 ?side2 A55.out).mono ?_);(case side1=>repeat (first|exact (Kd.N_reads' HO540.out).2.2|(with_reducible refine Kd.C_alloc ?_ _)|(with_reducible refine Kd.C_drewN ?_ _)|(with_reducible refine Kd.C_drew ?_)));(case side2=>exact (Kd.N_reads' HO540.out).2.1);rintro e w95 ⟨v543,rfl,ho0,hb⟩;refine ⟨_,rfl,?_⟩;replace HO_499001:=zo (Kd.V_elder' (zV HO_499001) (Kd.R_base ho0) hb);replace HO_499004:=zo (Kd.V_elder' (zV HO_499004) (Kd.R_base ho0) hb);replace HO508:=zo (Kd.N_elder' (zN HO508) (Kd.R_base ho0) hb);replace HO512:=zo (Kd.R_below (zR HO512) hb);replace HO521:=zo (Kd.N_elder' (zN HO521) (Kd.R_base ho0) hb);replace HO525:=zo (Kd.N_elder' (zN HO525) (Kd.R_base ho0) hb);replace HO540:=zo (Kd.N_elder' (zN HO540) (Kd.R_base ho0) hb);have HO544:=zo (Kd.R_lower (Kd.R_new' (Kd.R_new' ho0 (Kd.R_lt (zR HO530))) (Kd.R_lt (zR HO534))) (below_size (zI HB HI481)));replace HO530:=zo (Kd.R_elder' (zR HO530) (Kd.R_base ho0) hb);replace HO534:=zo (Kd.R_elder' (zR HO534) (Kd.R_base ho0) hb);replace BK492:=zo (blk_below (zB BK492) hb);replace BK498:=zo (blk_below (zB BK498) hb);replace BK505:=zo (blk_below (zB BK505) hb);replace BK517:=zo (blk_below (zB BK517) hb);replace BK518:=zo (blk_below (zB BK518) hb);replace HB:=zo (below_step (zI HB HI481) hb);replace HI481:=zo (IsS71.below (zJ HI481) hb);(try clear hb);(try clear ho0)))
   (try simp only [Act.put,List.setIfInBounds_toArray,List.set_cons_zero,List.set_cons_succ])
   go_cut [159] (fun v159 wc=>∃ (kq : Nat) (x159_55 : Bool),v159 = .bool x159_55∧Aside0 (soundservicelaw23_MixtureAlone.j1 kq (wrap64 (1+t482)) t484 t519 t527 t531 t541 x159_55 t526=some r)∧Aside0 (kq≤k1)∧Aside0 (Kd.N k54 54 wc w.heap.size (fun k_=>some k_≠(v529 : Value).ownBlock∧some k_≠(v533 : Value).ownBlock∧some k_≠(v543 : Value).ownBlock∧some k_≠((.slice Ao80 t510.length co80) : Value).ownBlock∧k_≠gb492∧k_≠gb498∧k_≠gb505∧k_≠gb517∧k_≠gb518∧k_≠g481) (.slice Ao88 t519.length co88) t519)∧Aside0 (Kd.R (Kd.int .i64) 2 wc w.heap.size (fun k_=>some k_≠(v533 : Value).ownBlock∧some k_≠(v543 : Value).ownBlock) v529 t527)∧Aside0 (Kd.R (Kd.int .i64) 2 wc w.heap.size (fun k_=>some k_≠(v529 : Value).ownBlock∧some k_≠(v543 : Value).ownBlock) v533 t531)∧Aside0 (Kd.R (Kd.int .i64) 2 wc w.heap.size (fun k_=>some k_≠(v529 : Value).ownBlock∧some k_≠(v533 : Value).ownBlock) v543 t541)∧Aside0 (Kd.V (Kd.int .i64) 3 wc w.heap.size (fun k_=>some k_≠((.slice Ao88 t519.length co88) : Value).ownBlock∧some k_≠(v529 : Value).ownBlock∧some k_≠(v533 : Value).ownBlock∧some k_≠(v543 : Value).ownBlock∧some k_≠((.slice Ao80 t510.length co80) : Value).ownBlock∧k_≠gb492∧k_≠gb498∧k_≠gb505∧k_≠gb517∧k_≠gb518∧k_≠g481) (.slice Ao17 t488.length co17) t488)∧Aside0 (Kd.V (Kd.int .i32) 21 wc w.heap.size (fun k_=>some k_≠((.slice Ao88 t519.length co88) : Value).ownBlock∧some k_≠(v529 : Value).ownBlock∧some k_≠(v533 : Value).ownBlock∧some k_≠(v543 : Value).ownBlock∧some k_≠((.slice Ao80 t510.length co80) : Value).ownBlock∧k_≠gb492∧k_≠gb498∧k_≠gb505∧k_≠gb517∧k_≠gb518∧k_≠g481) (.slice Ao24 x499001_1.length co24) x499001_1)∧Aside0 (Kd.V (Kd.int .i64) 3 wc w.heap.size (fun k_=>some k_≠((.slice Ao88 t519.length co88) : Value).ownBlock∧some k_≠(v529 : Value).ownBlock∧some k_≠(v533 : Value).ownBlock∧some k_≠(v543 : Value).ownBlock∧some k_≠((.slice Ao80 t510.length co80) : Value).ownBlock∧k_≠gb492∧k_≠gb498∧k_≠gb505∧k_≠gb517∧k_≠gb518∧k_≠g481) (.slice Ao17 t488.length co17) t488)∧Aside0 (Kd.R (Kd.int .i32) 21 wc w.heap.size (fun _=>True) (.slice Ao80 t510.length co80) t510)∧Aside0 (wc.heap[gb492]?=some (.cells #[.int .i64 t486,.int .i64 t487,(.slice Ao17 t488.length co17)] 50 (0,0)))∧Aside0 (wc.heap[gb498]?=some (.cells #[.int .i64 t493,(.slice Ao24 x499001_1.length co24),.int .i64 t486,.int .i64 t487,(.slice Ao17 t488.length co17),.int .i64 65536,.int .i64 65536,.int .i64 0,.int .i64 0] 54 (0,0)))∧Aside0 (wc.heap[gb505]?=some (.cells #[.int .i64 t501,.int .i64 t502,.int .i64 t503] 24 (0,0)))∧Aside0 (wc.heap[gb517]?=some (.cells #[.int .i64 t509,(.slice Ao80 t510.length co80)] 43 (0,0)))∧Aside0 (wc.heap[gb518]?=some (.cells #[.int .i64 t513,.int .i64 t514,.int .i64 t515] 24 (0,0)))∧Aside0 (IsS71 w wc g481 t526)∧Aside0 (Below w.heap.size w wc))
   case first=>
    have H:=HC56.out;clear HC56
    by_cases c96 : t516=0
    rotate_left
    ·rw [if_neg c96] at H;have c96b0 : (t516 == 0)=false:=beq_eq_false_iff_ne.mpr c96;have c96b1 : (t516 != 0)=true:=bne_iff_ne.mpr c96;(first|rw [c96b0]|(simp only [i64_w,i32_w];rw [c96b0])|skip);have H':=zo H;clear H
     go_wp2
     go_meet
     case rel=>exact ⟨_,(true),zE,H',⟨by have:=HK1.out;first|omega|exact Nat.le_refl _⟩,⟨by (try simp only [hl499001_1]);(with_reducible repeat (first|apply Kd.N_alloc|apply Kd.N_drewN|apply Kd.N_drew));exact Kd.N_mono HO521.out (fun _ hk=>⟨hk.1.1.2.2.2.1,⟨hk.1.1.2.2.2.2.1,⟨hk.2,⟨hk.1.1.2.1,⟨hk.1.1.2.2.2.2.2.1,⟨hk.1.1.2.2.2.2.2.2.1,⟨hk.1.1.2.2.2.2.2.2.2.1,⟨hk.1.1.2.2.2.2.2.2.2.2.1,⟨hk.1.1.2.2.2.2.2.2.2.2.2.1,hk.1.1.2.2.2.2.2.2.2.2.2.2⟩⟩⟩⟩⟩⟩⟩⟩⟩)⟩,⟨by (try simp only [hl499001_1]);(with_reducible repeat (first|apply Kd.R_alloc|apply Kd.R_drewN|apply Kd.R_drew));exact Kd.R_mono HO530.out (fun _ hk=>⟨hk.1.2,hk.2⟩)⟩,⟨by (try simp only [hl499001_1]);(with_reducible repeat (first|apply Kd.R_alloc|apply Kd.R_drewN|apply Kd.R_drew));exact Kd.R_mono HO534.out (fun _ hk=>⟨hk.1.2,hk.2⟩)⟩,⟨by (try simp only [hl499001_1]);(with_reducible repeat (first|apply Kd.R_alloc|apply Kd.R_drewN|apply Kd.R_drew));exact Kd.R_mono HO544.out (fun _ hk=>⟨hk.1.2,hk.2⟩)⟩,⟨by (try simp only [hl499001_1]);(with_reducible repeat (first|apply Kd.V_alloc|apply Kd.V_drewN|apply Kd.V_drew));exact Kd.V_mono HO_499004.out (fun _ hk=>⟨hk.1.1.2.2.2.1,⟨hk.1.1.2.2.2.2.2.1,⟨hk.1.1.2.2.2.2.2.2.1,⟨hk.2,⟨hk.1.1.2.2.1,⟨hk.1.1.2.2.2.2.2.2.2.1,⟨hk.1.1.2.2.2.2.2.2.2.2.1,⟨hk.1.1.2.2.2.2.2.2.2.2.2.1,⟨hk.1.1.2.2.2.2.2.2.2.2.2.2.2.1,⟨hk.1.1.2.2.2.2.2.2.2.2.2.2.2.2,hk.1.1.2.2.2.2.2.2.2.2.2.2.1⟩⟩⟩⟩⟩⟩⟩⟩⟩⟩)⟩,⟨by (try simp only [hl499001_1]);(with_reducible repeat (first|apply Kd.V_alloc|apply Kd.V_drewN|apply Kd.V_drew));exact Kd.V_mono HO_499001.out (fun _ hk=>⟨hk.1.1.2.2.1,⟨hk.1.1.2.2.2.2.1,⟨hk.1.1.2.2.2.2.2.1,⟨hk.2,⟨hk.1.1.2.1,⟨hk.1.1.2.2.2.2.2.2.1,⟨hk.1.1.2.2.2.2.2.2.2.1,⟨hk.1.1.2.2.2.2.2.2.2.2.1,⟨hk.1.1.2.2.2.2.2.2.2.2.2.2.1,⟨hk.1.1.2.2.2.2.2.2.2.2.2.2.2,hk.1.1.2.2.2.2.2.2.2.2.2.1⟩⟩⟩⟩⟩⟩⟩⟩⟩⟩)⟩,⟨by (try simp only [hl499001_1]);(with_reducible repeat (first|apply Kd.V_alloc|apply Kd.V_drewN|apply Kd.V_drew));exact Kd.V_mono HO_499004.out (fun _ hk=>⟨hk.1.1.2.2.2.1,⟨hk.1.1.2.2.2.2.2.1,⟨hk.1.1.2.2.2.2.2.2.1,⟨hk.2,⟨hk.1.1.2.2.1,⟨hk.1.1.2.2.2.2.2.2.2.1,⟨hk.1.1.2.2.2.2.2.2.2.2.1,⟨hk.1.1.2.2.2.2.2.2.2.2.2.1,⟨hk.1.1.2.2.2.2.2.2.2.2.2.2.2.1,⟨hk.1.1.2.2.2.2.2.2.2.2.2.2.2.2,hk.1.1.2.2.2.2.2.2.2.2.2.2.1⟩⟩⟩⟩⟩⟩⟩⟩⟩⟩)⟩,⟨by (try simp only [hl499001_1]);(with_reducible repeat (first|apply Kd.R_alloc|apply Kd.R_drewN|apply Kd.R_drew));exact HO512.out⟩,⟨by (try simp only [hl499001_1]);(with_reducible repeat (first|refine blk_drewN ?_ _|refine blk_drew ?_|refine blk_alloc ?_ _));exact BK492.out⟩,⟨by (try simp only [hl499001_1]);(with_reducible repeat (first|refine blk_drewN ?_ _|refine blk_drew ?_|refine blk_alloc ?_ _));exact BK498.out⟩,⟨by (try simp only [hl499001_1]);(with_reducible repeat (first|refine blk_drewN ?_ _|refine blk_drew ?_|refine blk_alloc ?_ _));exact BK505.out⟩,⟨by (try simp only [hl499001_1]);(with_reducible repeat (first|refine blk_drewN ?_ _|refine blk_drew ?_|refine blk_alloc ?_ _));exact BK517.out⟩,⟨by (try simp only [hl499001_1]);(with_reducible repeat (first|refine blk_drewN ?_ _|refine blk_drew ?_|refine blk_alloc ?_ _));exact BK518.out⟩,⟨zJ HI481⟩,⟨zI HB HI481⟩⟩
    rw [if_pos c96] at H;have c96b0 : (t516 == 0)=true:=beq_iff_eq.mpr c96;have c96b1 : (t516 != 0)=false:=bne_eq_false_iff_eq.mpr c96;clear c96;(first|rw [c96b0]|(simp only [i64_w,i32_w];rw [c96b0])|skip);replace H:=Option.bind_eq_some_iff.mp H;obtain ⟨t545,A970,H⟩:=H
    try dsimp only at H
    have A97:=zo A970;clear A970
    by_cases c98 : t545=true
    rotate_left
    ·replace c98:=Bool.eq_false_iff.mpr c98;subst c98;have H1:=H;rw [if_neg (show ¬ (false=true) by decide)] at H1;clear H;have H:=H1;clear H1;have H':=zo H;clear H;have hnb182:=NB517_492.out;have hnc182:=NB492_517.out;have hnb183:=NB517_498.out;have hnc183:=NB498_517.out;have hnb184:=NB517_505.out;have hnc184:=NB505_517.out;have hnb185:=NB517_518.out;have hnc185:=NB518_517.out;have hnb186:=NB517_481.out;have hnc186:=NB481_517.out;obtain ⟨hcz187_0,hfz187_0,hcz187_1,hfz187_1⟩:=zn2 BK517;have hnb188:=NB498_492.out;have hnc188:=NB492_498.out;have hnb189:=NB498_505.out;have hnc189:=NB505_498.out;have hnb190:=NB498_518.out;have hnc190:=NB518_498.out;have hnb191:=NB498_481.out;have hnc191:=NB481_498.out;obtain ⟨hcz192_0,hfz192_0,hcz192_1,hfz192_1,hcz192_2,hfz192_2,hcz192_3,hfz192_3,hcz192_4,hfz192_4,hcz192_5,hfz192_5,hcz192_6,hfz192_6,hcz192_7,hfz192_7,hcz192_8,hfz192_8⟩:=zn9 BK498
     go_wp2_with (first|(go_at_call 19;(with_reducible refine (soundserviceref04_Same.calls k1 t509 _ _ t510 t493 _ _ x499001_1 false _ ?side1 ?side2 ?side3 ?side4 A97.out).mono ?_);(case side1=>repeat (first|exact (Kd.R_reads' HO512.out).2.2|(with_reducible refine Kd.C_alloc ?_ _)|(with_reducible refine Kd.C_drewN ?_ _)|(with_reducible refine Kd.C_drew ?_)));(case side2=>exact (Kd.R_reads' HO512.out).2.1);(case side3=>repeat (first|exact (Kd.V_reads' HO_499001.out).2.2|(with_reducible refine Kd.C_alloc ?_ _)|(with_reducible refine Kd.C_drewN ?_ _)|(with_reducible refine Kd.C_drew ?_)));(case side4=>exact (Kd.V_reads' HO_499001.out).2.1);rintro e w193 ⟨rfl,hb⟩;replace HO_499001:=zo (Kd.V_below (zV HO_499001) hb);replace HO_499004:=zo (Kd.V_below (zV HO_499004) hb);replace HO508:=zo (Kd.N_below (zN HO508) hb);replace HO512:=zo (Kd.R_below (zR HO512) hb);replace HO521:=zo (Kd.N_below (zN HO521) hb);replace HO525:=zo (Kd.N_below (zN HO525) hb);replace HO530:=zo (Kd.R_below (zR HO530) hb);replace HO534:=zo (Kd.R_below (zR HO534) hb);replace HO540:=zo (Kd.N_below (zN HO540) hb);replace HO544:=zo (Kd.R_below (zR HO544) hb);replace BK492:=zo (blk_below (zB BK492) hb);replace BK498:=zo (blk_below (zB BK498) hb);replace BK505:=zo (blk_below (zB BK505) hb);replace BK517:=zo (blk_below (zB BK517) hb);replace BK518:=zo (blk_below (zB BK518) hb);replace HB:=zo (below_step (zI HB HI481) hb);replace HI481:=zo (IsS71.below (zJ HI481) hb);(try clear hb)))
     go_meet
     case rel=>exact ⟨_,(true),zE,H',⟨by have:=HK1.out;first|omega|exact Nat.le_refl _⟩,⟨by (try simp only [hl499001_1]);(with_reducible repeat (first|apply Kd.N_alloc|apply Kd.N_drewN|apply Kd.N_drew));exact Kd.N_mono HO521.out (fun _ hk=>⟨hk.1.1.2.2.2.1,⟨hk.1.1.2.2.2.2.1,⟨hk.2,⟨hk.1.1.2.1,⟨hk.1.1.2.2.2.2.2.1,⟨hk.1.1.2.2.2.2.2.2.1,⟨hk.1.1.2.2.2.2.2.2.2.1,⟨hk.1.1.2.2.2.2.2.2.2.2.1,⟨hk.1.1.2.2.2.2.2.2.2.2.2.1,hk.1.1.2.2.2.2.2.2.2.2.2.2⟩⟩⟩⟩⟩⟩⟩⟩⟩)⟩,⟨by (try simp only [hl499001_1]);(with_reducible repeat (first|apply Kd.R_alloc|apply Kd.R_drewN|apply Kd.R_drew));exact Kd.R_mono HO530.out (fun _ hk=>⟨hk.1.2,hk.2⟩)⟩,⟨by (try simp only [hl499001_1]);(with_reducible repeat (first|apply Kd.R_alloc|apply Kd.R_drewN|apply Kd.R_drew));exact Kd.R_mono HO534.out (fun _ hk=>⟨hk.1.2,hk.2⟩)⟩,⟨by (try simp only [hl499001_1]);(with_reducible repeat (first|apply Kd.R_alloc|apply Kd.R_drewN|apply Kd.R_drew));exact Kd.R_mono HO544.out (fun _ hk=>⟨hk.1.2,hk.2⟩)⟩,⟨by (try simp only [hl499001_1]);(with_reducible repeat (first|apply Kd.V_alloc|apply Kd.V_drewN|apply Kd.V_drew));exact Kd.V_mono HO_499004.out (fun _ hk=>⟨hk.1.1.2.2.2.1,⟨hk.1.1.2.2.2.2.2.1,⟨hk.1.1.2.2.2.2.2.2.1,⟨hk.2,⟨hk.1.1.2.2.1,⟨hk.1.1.2.2.2.2.2.2.2.1,⟨hk.1.1.2.2.2.2.2.2.2.2.1,⟨hk.1.1.2.2.2.2.2.2.2.2.2.1,⟨hk.1.1.2.2.2.2.2.2.2.2.2.2.2.1,⟨hk.1.1.2.2.2.2.2.2.2.2.2.2.2.2,hk.1.1.2.2.2.2.2.2.2.2.2.2.1⟩⟩⟩⟩⟩⟩⟩⟩⟩⟩)⟩,⟨by (try simp only [hl499001_1]);(with_reducible repeat (first|apply Kd.V_alloc|apply Kd.V_drewN|apply Kd.V_drew));exact Kd.V_mono HO_499001.out (fun _ hk=>⟨hk.1.1.2.2.1,⟨hk.1.1.2.2.2.2.1,⟨hk.1.1.2.2.2.2.2.1,⟨hk.2,⟨hk.1.1.2.1,⟨hk.1.1.2.2.2.2.2.2.1,⟨hk.1.1.2.2.2.2.2.2.2.1,⟨hk.1.1.2.2.2.2.2.2.2.2.1,⟨hk.1.1.2.2.2.2.2.2.2.2.2.2.1,⟨hk.1.1.2.2.2.2.2.2.2.2.2.2.2,hk.1.1.2.2.2.2.2.2.2.2.2.1⟩⟩⟩⟩⟩⟩⟩⟩⟩⟩)⟩,⟨by (try simp only [hl499001_1]);(with_reducible repeat (first|apply Kd.V_alloc|apply Kd.V_drewN|apply Kd.V_drew));exact Kd.V_mono HO_499004.out (fun _ hk=>⟨hk.1.1.2.2.2.1,⟨hk.1.1.2.2.2.2.2.1,⟨hk.1.1.2.2.2.2.2.2.1,⟨hk.2,⟨hk.1.1.2.2.1,⟨hk.1.1.2.2.2.2.2.2.2.1,⟨hk.1.1.2.2.2.2.2.2.2.2.1,⟨hk.1.1.2.2.2.2.2.2.2.2.2.1,⟨hk.1.1.2.2.2.2.2.2.2.2.2.2.2.1,⟨hk.1.1.2.2.2.2.2.2.2.2.2.2.2.2,hk.1.1.2.2.2.2.2.2.2.2.2.2.1⟩⟩⟩⟩⟩⟩⟩⟩⟩⟩)⟩,⟨by (try simp only [hl499001_1]);(with_reducible repeat (first|apply Kd.R_alloc|apply Kd.R_drewN|apply Kd.R_drew));exact HO512.out⟩,⟨by (try simp only [hl499001_1]);(with_reducible repeat (first|refine blk_drewN ?_ _|refine blk_drew ?_|refine blk_alloc ?_ _));exact BK492.out⟩,⟨by (try simp only [hl499001_1]);(with_reducible repeat (first|refine blk_drewN ?_ _|refine blk_drew ?_|refine blk_alloc ?_ _));exact BK498.out⟩,⟨by (try simp only [hl499001_1]);(with_reducible repeat (first|refine blk_drewN ?_ _|refine blk_drew ?_|refine blk_alloc ?_ _));exact BK505.out⟩,⟨by (try simp only [hl499001_1]);(with_reducible repeat (first|refine blk_drewN ?_ _|refine blk_drew ?_|refine blk_alloc ?_ _));exact BK517.out⟩,⟨by (try simp only [hl499001_1]);(with_reducible repeat (first|refine blk_drewN ?_ _|refine blk_drew ?_|refine blk_alloc ?_ _));exact BK518.out⟩,⟨zJ HI481⟩,⟨zI HB HI481⟩⟩
    subst c98;have H1:=H;rw [if_pos rfl] at H1;clear H;have H:=H1;clear H1
    by_cases c99 : t528=0
    rotate_left
    ·rw [if_neg c99] at H;have c99b0 : (t528 == 0)=false:=beq_eq_false_iff_ne.mpr c99;have c99b1 : (t528 != 0)=true:=bne_iff_ne.mpr c99;have H':=zo H;clear H;have hnb170:=NB517_492.out;have hnc170:=NB492_517.out;have hnb171:=NB517_498.out;have hnc171:=NB498_517.out;have hnb172:=NB517_505.out;have hnc172:=NB505_517.out;have hnb173:=NB517_518.out;have hnc173:=NB518_517.out;have hnb174:=NB517_481.out;have hnc174:=NB481_517.out;obtain ⟨hcz175_0,hfz175_0,hcz175_1,hfz175_1⟩:=zn2 BK517;have hnb176:=NB498_492.out;have hnc176:=NB492_498.out;have hnb177:=NB498_505.out;have hnc177:=NB505_498.out;have hnb178:=NB498_518.out;have hnc178:=NB518_498.out;have hnb179:=NB498_481.out;have hnc179:=NB481_498.out;obtain ⟨hcz180_0,hfz180_0,hcz180_1,hfz180_1,hcz180_2,hfz180_2,hcz180_3,hfz180_3,hcz180_4,hfz180_4,hcz180_5,hfz180_5,hcz180_6,hfz180_6,hcz180_7,hfz180_7,hcz180_8,hfz180_8⟩:=zn9 BK498
     go_wp2_with (first|(go_at_call 19;(with_reducible refine (soundserviceref04_Same.calls k1 t509 _ _ t510 t493 _ _ x499001_1 true _ ?side1 ?side2 ?side3 ?side4 A97.out).mono ?_);(case side1=>repeat (first|exact (Kd.R_reads' HO512.out).2.2|(with_reducible refine Kd.C_alloc ?_ _)|(with_reducible refine Kd.C_drewN ?_ _)|(with_reducible refine Kd.C_drew ?_)));(case side2=>exact (Kd.R_reads' HO512.out).2.1);(case side3=>repeat (first|exact (Kd.V_reads' HO_499001.out).2.2|(with_reducible refine Kd.C_alloc ?_ _)|(with_reducible refine Kd.C_drewN ?_ _)|(with_reducible refine Kd.C_drew ?_)));(case side4=>exact (Kd.V_reads' HO_499001.out).2.1);rintro e w181 ⟨rfl,hb⟩;replace HO_499001:=zo (Kd.V_below (zV HO_499001) hb);replace HO_499004:=zo (Kd.V_below (zV HO_499004) hb);replace HO508:=zo (Kd.N_below (zN HO508) hb);replace HO512:=zo (Kd.R_below (zR HO512) hb);replace HO521:=zo (Kd.N_below (zN HO521) hb);replace HO525:=zo (Kd.N_below (zN HO525) hb);replace HO530:=zo (Kd.R_below (zR HO530) hb);replace HO534:=zo (Kd.R_below (zR HO534) hb);replace HO540:=zo (Kd.N_below (zN HO540) hb);replace HO544:=zo (Kd.R_below (zR HO544) hb);replace BK492:=zo (blk_below (zB BK492) hb);replace BK498:=zo (blk_below (zB BK498) hb);replace BK505:=zo (blk_below (zB BK505) hb);replace BK517:=zo (blk_below (zB BK517) hb);replace BK518:=zo (blk_below (zB BK518) hb);replace HB:=zo (below_step (zI HB HI481) hb);replace HI481:=zo (IsS71.below (zJ HI481) hb);(try clear hb)))
     go_meet
     case rel=>exact ⟨_,(true),zE,H',⟨by have:=HK1.out;first|omega|exact Nat.le_refl _⟩,⟨by (try simp only [hl499001_1]);(with_reducible repeat (first|apply Kd.N_alloc|apply Kd.N_drewN|apply Kd.N_drew));exact Kd.N_mono HO521.out (fun _ hk=>⟨hk.1.1.2.2.2.1,⟨hk.1.1.2.2.2.2.1,⟨hk.2,⟨hk.1.1.2.1,⟨hk.1.1.2.2.2.2.2.1,⟨hk.1.1.2.2.2.2.2.2.1,⟨hk.1.1.2.2.2.2.2.2.2.1,⟨hk.1.1.2.2.2.2.2.2.2.2.1,⟨hk.1.1.2.2.2.2.2.2.2.2.2.1,hk.1.1.2.2.2.2.2.2.2.2.2.2⟩⟩⟩⟩⟩⟩⟩⟩⟩)⟩,⟨by (try simp only [hl499001_1]);(with_reducible repeat (first|apply Kd.R_alloc|apply Kd.R_drewN|apply Kd.R_drew));exact Kd.R_mono HO530.out (fun _ hk=>⟨hk.1.2,hk.2⟩)⟩,⟨by (try simp only [hl499001_1]);(with_reducible repeat (first|apply Kd.R_alloc|apply Kd.R_drewN|apply Kd.R_drew));exact Kd.R_mono HO534.out (fun _ hk=>⟨hk.1.2,hk.2⟩)⟩,⟨by (try simp only [hl499001_1]);(with_reducible repeat (first|apply Kd.R_alloc|apply Kd.R_drewN|apply Kd.R_drew));exact Kd.R_mono HO544.out (fun _ hk=>⟨hk.1.2,hk.2⟩)⟩,⟨by (try simp only [hl499001_1]);(with_reducible repeat (first|apply Kd.V_alloc|apply Kd.V_drewN|apply Kd.V_drew));exact Kd.V_mono HO_499004.out (fun _ hk=>⟨hk.1.1.2.2.2.1,⟨hk.1.1.2.2.2.2.2.1,⟨hk.1.1.2.2.2.2.2.2.1,⟨hk.2,⟨hk.1.1.2.2.1,⟨hk.1.1.2.2.2.2.2.2.2.1,⟨hk.1.1.2.2.2.2.2.2.2.2.1,⟨hk.1.1.2.2.2.2.2.2.2.2.2.1,⟨hk.1.1.2.2.2.2.2.2.2.2.2.2.2.1,⟨hk.1.1.2.2.2.2.2.2.2.2.2.2.2.2,hk.1.1.2.2.2.2.2.2.2.2.2.2.1⟩⟩⟩⟩⟩⟩⟩⟩⟩⟩)⟩,⟨by (try simp only [hl499001_1]);(with_reducible repeat (first|apply Kd.V_alloc|apply Kd.V_drewN|apply Kd.V_drew));exact Kd.V_mono HO_499001.out (fun _ hk=>⟨hk.1.1.2.2.1,⟨hk.1.1.2.2.2.2.1,⟨hk.1.1.2.2.2.2.2.1,⟨hk.2,⟨hk.1.1.2.1,⟨hk.1.1.2.2.2.2.2.2.1,⟨hk.1.1.2.2.2.2.2.2.2.1,⟨hk.1.1.2.2.2.2.2.2.2.2.1,⟨hk.1.1.2.2.2.2.2.2.2.2.2.2.1,⟨hk.1.1.2.2.2.2.2.2.2.2.2.2.2,hk.1.1.2.2.2.2.2.2.2.2.2.1⟩⟩⟩⟩⟩⟩⟩⟩⟩⟩)⟩,⟨by (try simp only [hl499001_1]);(with_reducible repeat (first|apply Kd.V_alloc|apply Kd.V_drewN|apply Kd.V_drew));exact Kd.V_mono HO_499004.out (fun _ hk=>⟨hk.1.1.2.2.2.1,⟨hk.1.1.2.2.2.2.2.1,⟨hk.1.1.2.2.2.2.2.2.1,⟨hk.2,⟨hk.1.1.2.2.1,⟨hk.1.1.2.2.2.2.2.2.2.1,⟨hk.1.1.2.2.2.2.2.2.2.2.1,⟨hk.1.1.2.2.2.2.2.2.2.2.2.1,⟨hk.1.1.2.2.2.2.2.2.2.2.2.2.2.1,⟨hk.1.1.2.2.2.2.2.2.2.2.2.2.2.2,hk.1.1.2.2.2.2.2.2.2.2.2.2.1⟩⟩⟩⟩⟩⟩⟩⟩⟩⟩)⟩,⟨by (try simp only [hl499001_1]);(with_reducible repeat (first|apply Kd.R_alloc|apply Kd.R_drewN|apply Kd.R_drew));exact HO512.out⟩,⟨by (try simp only [hl499001_1]);(with_reducible repeat (first|refine blk_drewN ?_ _|refine blk_drew ?_|refine blk_alloc ?_ _));exact BK492.out⟩,⟨by (try simp only [hl499001_1]);(with_reducible repeat (first|refine blk_drewN ?_ _|refine blk_drew ?_|refine blk_alloc ?_ _));exact BK498.out⟩,⟨by (try simp only [hl499001_1]);(with_reducible repeat (first|refine blk_drewN ?_ _|refine blk_drew ?_|refine blk_alloc ?_ _));exact BK505.out⟩,⟨by (try simp only [hl499001_1]);(with_reducible repeat (first|refine blk_drewN ?_ _|refine blk_drew ?_|refine blk_alloc ?_ _));exact BK517.out⟩,⟨by (try simp only [hl499001_1]);(with_reducible repeat (first|refine blk_drewN ?_ _|refine blk_drew ?_|refine blk_alloc ?_ _));exact BK518.out⟩,⟨zJ HI481⟩,⟨zI HB HI481⟩⟩
    rw [if_pos c99] at H;have c99b0 : (t528 == 0)=true:=beq_iff_eq.mpr c99;have c99b1 : (t528 != 0)=false:=bne_eq_false_iff_eq.mpr c99;clear c99
    by_cases c100 : t532=0
    rotate_left
    ·rw [if_neg c100] at H;have c100b0 : (t532 == 0)=false:=beq_eq_false_iff_ne.mpr c100;have c100b1 : (t532 != 0)=true:=bne_iff_ne.mpr c100;have H':=zo H;clear H;have hnb158:=NB517_492.out;have hnc158:=NB492_517.out;have hnb159:=NB517_498.out;have hnc159:=NB498_517.out;have hnb160:=NB517_505.out;have hnc160:=NB505_517.out;have hnb161:=NB517_518.out;have hnc161:=NB518_517.out;have hnb162:=NB517_481.out;have hnc162:=NB481_517.out;obtain ⟨hcz163_0,hfz163_0,hcz163_1,hfz163_1⟩:=zn2 BK517;have hnb164:=NB498_492.out;have hnc164:=NB492_498.out;have hnb165:=NB498_505.out;have hnc165:=NB505_498.out;have hnb166:=NB498_518.out;have hnc166:=NB518_498.out;have hnb167:=NB498_481.out;have hnc167:=NB481_498.out;obtain ⟨hcz168_0,hfz168_0,hcz168_1,hfz168_1,hcz168_2,hfz168_2,hcz168_3,hfz168_3,hcz168_4,hfz168_4,hcz168_5,hfz168_5,hcz168_6,hfz168_6,hcz168_7,hfz168_7,hcz168_8,hfz168_8⟩:=zn9 BK498
     go_wp2_with (first|(go_at_call 19;(with_reducible refine (soundserviceref04_Same.calls k1 t509 _ _ t510 t493 _ _ x499001_1 true _ ?side1 ?side2 ?side3 ?side4 A97.out).mono ?_);(case side1=>repeat (first|exact (Kd.R_reads' HO512.out).2.2|(with_reducible refine Kd.C_alloc ?_ _)|(with_reducible refine Kd.C_drewN ?_ _)|(with_reducible refine Kd.C_drew ?_)));(case side2=>exact (Kd.R_reads' HO512.out).2.1);(case side3=>repeat (first|exact (Kd.V_reads' HO_499001.out).2.2|(with_reducible refine Kd.C_alloc ?_ _)|(with_reducible refine Kd.C_drewN ?_ _)|(with_reducible refine Kd.C_drew ?_)));(case side4=>exact (Kd.V_reads' HO_499001.out).2.1);rintro e w169 ⟨rfl,hb⟩;replace HO_499001:=zo (Kd.V_below (zV HO_499001) hb);replace HO_499004:=zo (Kd.V_below (zV HO_499004) hb);replace HO508:=zo (Kd.N_below (zN HO508) hb);replace HO512:=zo (Kd.R_below (zR HO512) hb);replace HO521:=zo (Kd.N_below (zN HO521) hb);replace HO525:=zo (Kd.N_below (zN HO525) hb);replace HO530:=zo (Kd.R_below (zR HO530) hb);replace HO534:=zo (Kd.R_below (zR HO534) hb);replace HO540:=zo (Kd.N_below (zN HO540) hb);replace HO544:=zo (Kd.R_below (zR HO544) hb);replace BK492:=zo (blk_below (zB BK492) hb);replace BK498:=zo (blk_below (zB BK498) hb);replace BK505:=zo (blk_below (zB BK505) hb);replace BK517:=zo (blk_below (zB BK517) hb);replace BK518:=zo (blk_below (zB BK518) hb);replace HB:=zo (below_step (zI HB HI481) hb);replace HI481:=zo (IsS71.below (zJ HI481) hb);(try clear hb)))
     go_meet
     case rel=>exact ⟨_,(true),zE,H',⟨by have:=HK1.out;first|omega|exact Nat.le_refl _⟩,⟨by (try simp only [hl499001_1]);(with_reducible repeat (first|apply Kd.N_alloc|apply Kd.N_drewN|apply Kd.N_drew));exact Kd.N_mono HO521.out (fun _ hk=>⟨hk.1.1.2.2.2.1,⟨hk.1.1.2.2.2.2.1,⟨hk.2,⟨hk.1.1.2.1,⟨hk.1.1.2.2.2.2.2.1,⟨hk.1.1.2.2.2.2.2.2.1,⟨hk.1.1.2.2.2.2.2.2.2.1,⟨hk.1.1.2.2.2.2.2.2.2.2.1,⟨hk.1.1.2.2.2.2.2.2.2.2.2.1,hk.1.1.2.2.2.2.2.2.2.2.2.2⟩⟩⟩⟩⟩⟩⟩⟩⟩)⟩,⟨by (try simp only [hl499001_1]);(with_reducible repeat (first|apply Kd.R_alloc|apply Kd.R_drewN|apply Kd.R_drew));exact Kd.R_mono HO530.out (fun _ hk=>⟨hk.1.2,hk.2⟩)⟩,⟨by (try simp only [hl499001_1]);(with_reducible repeat (first|apply Kd.R_alloc|apply Kd.R_drewN|apply Kd.R_drew));exact Kd.R_mono HO534.out (fun _ hk=>⟨hk.1.2,hk.2⟩)⟩,⟨by (try simp only [hl499001_1]);(with_reducible repeat (first|apply Kd.R_alloc|apply Kd.R_drewN|apply Kd.R_drew));exact Kd.R_mono HO544.out (fun _ hk=>⟨hk.1.2,hk.2⟩)⟩,⟨by (try simp only [hl499001_1]);(with_reducible repeat (first|apply Kd.V_alloc|apply Kd.V_drewN|apply Kd.V_drew));exact Kd.V_mono HO_499004.out (fun _ hk=>⟨hk.1.1.2.2.2.1,⟨hk.1.1.2.2.2.2.2.1,⟨hk.1.1.2.2.2.2.2.2.1,⟨hk.2,⟨hk.1.1.2.2.1,⟨hk.1.1.2.2.2.2.2.2.2.1,⟨hk.1.1.2.2.2.2.2.2.2.2.1,⟨hk.1.1.2.2.2.2.2.2.2.2.2.1,⟨hk.1.1.2.2.2.2.2.2.2.2.2.2.2.1,⟨hk.1.1.2.2.2.2.2.2.2.2.2.2.2.2,hk.1.1.2.2.2.2.2.2.2.2.2.2.1⟩⟩⟩⟩⟩⟩⟩⟩⟩⟩)⟩,⟨by (try simp only [hl499001_1]);(with_reducible repeat (first|apply Kd.V_alloc|apply Kd.V_drewN|apply Kd.V_drew));exact Kd.V_mono HO_499001.out (fun _ hk=>⟨hk.1.1.2.2.1,⟨hk.1.1.2.2.2.2.1,⟨hk.1.1.2.2.2.2.2.1,⟨hk.2,⟨hk.1.1.2.1,⟨hk.1.1.2.2.2.2.2.2.1,⟨hk.1.1.2.2.2.2.2.2.2.1,⟨hk.1.1.2.2.2.2.2.2.2.2.1,⟨hk.1.1.2.2.2.2.2.2.2.2.2.2.1,⟨hk.1.1.2.2.2.2.2.2.2.2.2.2.2,hk.1.1.2.2.2.2.2.2.2.2.2.1⟩⟩⟩⟩⟩⟩⟩⟩⟩⟩)⟩,⟨by (try simp only [hl499001_1]);(with_reducible repeat (first|apply Kd.V_alloc|apply Kd.V_drewN|apply Kd.V_drew));exact Kd.V_mono HO_499004.out (fun _ hk=>⟨hk.1.1.2.2.2.1,⟨hk.1.1.2.2.2.2.2.1,⟨hk.1.1.2.2.2.2.2.2.1,⟨hk.2,⟨hk.1.1.2.2.1,⟨hk.1.1.2.2.2.2.2.2.2.1,⟨hk.1.1.2.2.2.2.2.2.2.2.1,⟨hk.1.1.2.2.2.2.2.2.2.2.2.1,⟨hk.1.1.2.2.2.2.2.2.2.2.2.2.2.1,⟨hk.1.1.2.2.2.2.2.2.2.2.2.2.2.2,hk.1.1.2.2.2.2.2.2.2.2.2.2.1⟩⟩⟩⟩⟩⟩⟩⟩⟩⟩)⟩,⟨by (try simp only [hl499001_1]);(with_reducible repeat (first|apply Kd.R_alloc|apply Kd.R_drewN|apply Kd.R_drew));exact HO512.out⟩,⟨by (try simp only [hl499001_1]);(with_reducible repeat (first|refine blk_drewN ?_ _|refine blk_drew ?_|refine blk_alloc ?_ _));exact BK492.out⟩,⟨by (try simp only [hl499001_1]);(with_reducible repeat (first|refine blk_drewN ?_ _|refine blk_drew ?_|refine blk_alloc ?_ _));exact BK498.out⟩,⟨by (try simp only [hl499001_1]);(with_reducible repeat (first|refine blk_drewN ?_ _|refine blk_drew ?_|refine blk_alloc ?_ _));exact BK505.out⟩,⟨by (try simp only [hl499001_1]);(with_reducible repeat (first|refine blk_drewN ?_ _|refine blk_drew ?_|refine blk_alloc ?_ _));exact BK517.out⟩,⟨by (try simp only [hl499001_1]);(with_reducible repeat (first|refine blk_drewN ?_ _|refine blk_drew ?_|refine blk_alloc ?_ _));exact BK518.out⟩,⟨zJ HI481⟩,⟨zI HB HI481⟩⟩
    rw [if_pos c100] at H;have c100b0 : (t532 == 0)=true:=beq_iff_eq.mpr c100;have c100b1 : (t532 != 0)=false:=bne_eq_false_iff_eq.mpr c100;clear c100
    by_cases c101 : t542=0
    rotate_left
    ·rw [if_neg c101] at H;have c101b0 : (t542 == 0)=false:=beq_eq_false_iff_ne.mpr c101;have c101b1 : (t542 != 0)=true:=bne_iff_ne.mpr c101;have H':=zo H;clear H;have hnb146:=NB517_492.out;have hnc146:=NB492_517.out;have hnb147:=NB517_498.out;have hnc147:=NB498_517.out;have hnb148:=NB517_505.out;have hnc148:=NB505_517.out;have hnb149:=NB517_518.out;have hnc149:=NB518_517.out;have hnb150:=NB517_481.out;have hnc150:=NB481_517.out;obtain ⟨hcz151_0,hfz151_0,hcz151_1,hfz151_1⟩:=zn2 BK517;have hnb152:=NB498_492.out;have hnc152:=NB492_498.out;have hnb153:=NB498_505.out;have hnc153:=NB505_498.out;have hnb154:=NB498_518.out;have hnc154:=NB518_498.out;have hnb155:=NB498_481.out;have hnc155:=NB481_498.out;obtain ⟨hcz156_0,hfz156_0,hcz156_1,hfz156_1,hcz156_2,hfz156_2,hcz156_3,hfz156_3,hcz156_4,hfz156_4,hcz156_5,hfz156_5,hcz156_6,hfz156_6,hcz156_7,hfz156_7,hcz156_8,hfz156_8⟩:=zn9 BK498
     go_wp2_with (first|(go_at_call 19;(with_reducible refine (soundserviceref04_Same.calls k1 t509 _ _ t510 t493 _ _ x499001_1 true _ ?side1 ?side2 ?side3 ?side4 A97.out).mono ?_);(case side1=>repeat (first|exact (Kd.R_reads' HO512.out).2.2|(with_reducible refine Kd.C_alloc ?_ _)|(with_reducible refine Kd.C_drewN ?_ _)|(with_reducible refine Kd.C_drew ?_)));(case side2=>exact (Kd.R_reads' HO512.out).2.1);(case side3=>repeat (first|exact (Kd.V_reads' HO_499001.out).2.2|(with_reducible refine Kd.C_alloc ?_ _)|(with_reducible refine Kd.C_drewN ?_ _)|(with_reducible refine Kd.C_drew ?_)));(case side4=>exact (Kd.V_reads' HO_499001.out).2.1);rintro e w157 ⟨rfl,hb⟩;replace HO_499001:=zo (Kd.V_below (zV HO_499001) hb);replace HO_499004:=zo (Kd.V_below (zV HO_499004) hb);replace HO508:=zo (Kd.N_below (zN HO508) hb);replace HO512:=zo (Kd.R_below (zR HO512) hb);replace HO521:=zo (Kd.N_below (zN HO521) hb);replace HO525:=zo (Kd.N_below (zN HO525) hb);replace HO530:=zo (Kd.R_below (zR HO530) hb);replace HO534:=zo (Kd.R_below (zR HO534) hb);replace HO540:=zo (Kd.N_below (zN HO540) hb);replace HO544:=zo (Kd.R_below (zR HO544) hb);replace BK492:=zo (blk_below (zB BK492) hb);replace BK498:=zo (blk_below (zB BK498) hb);replace BK505:=zo (blk_below (zB BK505) hb);replace BK517:=zo (blk_below (zB BK517) hb);replace BK518:=zo (blk_below (zB BK518) hb);replace HB:=zo (below_step (zI HB HI481) hb);replace HI481:=zo (IsS71.below (zJ HI481) hb);(try clear hb)))
     go_meet
     case rel=>exact ⟨_,(true),zE,H',⟨by have:=HK1.out;first|omega|exact Nat.le_refl _⟩,⟨by (try simp only [hl499001_1]);(with_reducible repeat (first|apply Kd.N_alloc|apply Kd.N_drewN|apply Kd.N_drew));exact Kd.N_mono HO521.out (fun _ hk=>⟨hk.1.1.2.2.2.1,⟨hk.1.1.2.2.2.2.1,⟨hk.2,⟨hk.1.1.2.1,⟨hk.1.1.2.2.2.2.2.1,⟨hk.1.1.2.2.2.2.2.2.1,⟨hk.1.1.2.2.2.2.2.2.2.1,⟨hk.1.1.2.2.2.2.2.2.2.2.1,⟨hk.1.1.2.2.2.2.2.2.2.2.2.1,hk.1.1.2.2.2.2.2.2.2.2.2.2⟩⟩⟩⟩⟩⟩⟩⟩⟩)⟩,⟨by (try simp only [hl499001_1]);(with_reducible repeat (first|apply Kd.R_alloc|apply Kd.R_drewN|apply Kd.R_drew));exact Kd.R_mono HO530.out (fun _ hk=>⟨hk.1.2,hk.2⟩)⟩,⟨by (try simp only [hl499001_1]);(with_reducible repeat (first|apply Kd.R_alloc|apply Kd.R_drewN|apply Kd.R_drew));exact Kd.R_mono HO534.out (fun _ hk=>⟨hk.1.2,hk.2⟩)⟩,⟨by (try simp only [hl499001_1]);(with_reducible repeat (first|apply Kd.R_alloc|apply Kd.R_drewN|apply Kd.R_drew));exact Kd.R_mono HO544.out (fun _ hk=>⟨hk.1.2,hk.2⟩)⟩,⟨by (try simp only [hl499001_1]);(with_reducible repeat (first|apply Kd.V_alloc|apply Kd.V_drewN|apply Kd.V_drew));exact Kd.V_mono HO_499004.out (fun _ hk=>⟨hk.1.1.2.2.2.1,⟨hk.1.1.2.2.2.2.2.1,⟨hk.1.1.2.2.2.2.2.2.1,⟨hk.2,⟨hk.1.1.2.2.1,⟨hk.1.1.2.2.2.2.2.2.2.1,⟨hk.1.1.2.2.2.2.2.2.2.2.1,⟨hk.1.1.2.2.2.2.2.2.2.2.2.1,⟨hk.1.1.2.2.2.2.2.2.2.2.2.2.2.1,⟨hk.1.1.2.2.2.2.2.2.2.2.2.2.2.2,hk.1.1.2.2.2.2.2.2.2.2.2.2.1⟩⟩⟩⟩⟩⟩⟩⟩⟩⟩)⟩,⟨by (try simp only [hl499001_1]);(with_reducible repeat (first|apply Kd.V_alloc|apply Kd.V_drewN|apply Kd.V_drew));exact Kd.V_mono HO_499001.out (fun _ hk=>⟨hk.1.1.2.2.1,⟨hk.1.1.2.2.2.2.1,⟨hk.1.1.2.2.2.2.2.1,⟨hk.2,⟨hk.1.1.2.1,⟨hk.1.1.2.2.2.2.2.2.1,⟨hk.1.1.2.2.2.2.2.2.2.1,⟨hk.1.1.2.2.2.2.2.2.2.2.1,⟨hk.1.1.2.2.2.2.2.2.2.2.2.2.1,⟨hk.1.1.2.2.2.2.2.2.2.2.2.2.2,hk.1.1.2.2.2.2.2.2.2.2.2.1⟩⟩⟩⟩⟩⟩⟩⟩⟩⟩)⟩,⟨by (try simp only [hl499001_1]);(with_reducible repeat (first|apply Kd.V_alloc|apply Kd.V_drewN|apply Kd.V_drew));exact Kd.V_mono HO_499004.out (fun _ hk=>⟨hk.1.1.2.2.2.1,⟨hk.1.1.2.2.2.2.2.1,⟨hk.1.1.2.2.2.2.2.2.1,⟨hk.2,⟨hk.1.1.2.2.1,⟨hk.1.1.2.2.2.2.2.2.2.1,⟨hk.1.1.2.2.2.2.2.2.2.2.1,⟨hk.1.1.2.2.2.2.2.2.2.2.2.1,⟨hk.1.1.2.2.2.2.2.2.2.2.2.2.2.1,⟨hk.1.1.2.2.2.2.2.2.2.2.2.2.2.2,hk.1.1.2.2.2.2.2.2.2.2.2.2.1⟩⟩⟩⟩⟩⟩⟩⟩⟩⟩)⟩,⟨by (try simp only [hl499001_1]);(with_reducible repeat (first|apply Kd.R_alloc|apply Kd.R_drewN|apply Kd.R_drew));exact HO512.out⟩,⟨by (try simp only [hl499001_1]);(with_reducible repeat (first|refine blk_drewN ?_ _|refine blk_drew ?_|refine blk_alloc ?_ _));exact BK492.out⟩,⟨by (try simp only [hl499001_1]);(with_reducible repeat (first|refine blk_drewN ?_ _|refine blk_drew ?_|refine blk_alloc ?_ _));exact BK498.out⟩,⟨by (try simp only [hl499001_1]);(with_reducible repeat (first|refine blk_drewN ?_ _|refine blk_drew ?_|refine blk_alloc ?_ _));exact BK505.out⟩,⟨by (try simp only [hl499001_1]);(with_reducible repeat (first|refine blk_drewN ?_ _|refine blk_drew ?_|refine blk_alloc ?_ _));exact BK517.out⟩,⟨by (try simp only [hl499001_1]);(with_reducible repeat (first|refine blk_drewN ?_ _|refine blk_drew ?_|refine blk_alloc ?_ _));exact BK518.out⟩,⟨zJ HI481⟩,⟨zI HB HI481⟩⟩
    rw [if_pos c101] at H;have c101b0 : (t542 == 0)=true:=beq_iff_eq.mpr c101;have c101b1 : (t542 != 0)=false:=bne_eq_false_iff_eq.mpr c101;clear c101
    by_cases c102 : (t527.length : Int)=(wrap64 ((wrap64 (1+t482))*t484))
    rotate_left
    ·rw [if_neg c102] at H;have c102b0 : ((t527.length : Int) == (wrap64 ((wrap64 (1+t482))*t484)))=false:=beq_eq_false_iff_ne.mpr c102;have c102b1 : ((t527.length : Int) != (wrap64 ((wrap64 (1+t482))*t484)))=true:=bne_iff_ne.mpr c102;have H':=zo H;clear H;have hnb133:=NB517_492.out;have hnc133:=NB492_517.out;have hnb134:=NB517_498.out;have hnc134:=NB498_517.out;have hnb135:=NB517_505.out;have hnc135:=NB505_517.out;have hnb136:=NB517_518.out;have hnc136:=NB518_517.out;have hnb137:=NB517_481.out;have hnc137:=NB481_517.out;obtain ⟨hcz138_0,hfz138_0,hcz138_1,hfz138_1⟩:=zn2 BK517;have hnb139:=NB498_492.out;have hnc139:=NB492_498.out;have hnb140:=NB498_505.out;have hnc140:=NB505_498.out;have hnb141:=NB498_518.out;have hnc141:=NB518_498.out;have hnb142:=NB498_481.out;have hnc142:=NB481_498.out;obtain ⟨hcz143_0,hfz143_0,hcz143_1,hfz143_1,hcz143_2,hfz143_2,hcz143_3,hfz143_3,hcz143_4,hfz143_4,hcz143_5,hfz143_5,hcz143_6,hfz143_6,hcz143_7,hfz143_7,hcz143_8,hfz143_8⟩:=zn9 BK498
     go_wp2_with (first|(go_at_call 19;(with_reducible refine (soundserviceref04_Same.calls k1 t509 _ _ t510 t493 _ _ x499001_1 true _ ?side1 ?side2 ?side3 ?side4 A97.out).mono ?_);(case side1=>repeat (first|exact (Kd.R_reads' HO512.out).2.2|(with_reducible refine Kd.C_alloc ?_ _)|(with_reducible refine Kd.C_drewN ?_ _)|(with_reducible refine Kd.C_drew ?_)));(case side2=>exact (Kd.R_reads' HO512.out).2.1);(case side3=>repeat (first|exact (Kd.V_reads' HO_499001.out).2.2|(with_reducible refine Kd.C_alloc ?_ _)|(with_reducible refine Kd.C_drewN ?_ _)|(with_reducible refine Kd.C_drew ?_)));(case side4=>exact (Kd.V_reads' HO_499001.out).2.1);rintro e w144 ⟨rfl,hb⟩;replace HO_499001:=zo (Kd.V_below (zV HO_499001) hb);replace HO_499004:=zo (Kd.V_below (zV HO_499004) hb);replace HO508:=zo (Kd.N_below (zN HO508) hb);replace HO512:=zo (Kd.R_below (zR HO512) hb);replace HO521:=zo (Kd.N_below (zN HO521) hb);replace HO525:=zo (Kd.N_below (zN HO525) hb);replace HO530:=zo (Kd.R_below (zR HO530) hb);replace HO534:=zo (Kd.R_below (zR HO534) hb);replace HO540:=zo (Kd.N_below (zN HO540) hb);replace HO544:=zo (Kd.R_below (zR HO544) hb);replace BK492:=zo (blk_below (zB BK492) hb);replace BK498:=zo (blk_below (zB BK498) hb);replace BK505:=zo (blk_below (zB BK505) hb);replace BK517:=zo (blk_below (zB BK517) hb);replace BK518:=zo (blk_below (zB BK518) hb);replace HB:=zo (below_step (zI HB HI481) hb);replace HI481:=zo (IsS71.below (zJ HI481) hb);(try clear hb);obtain ⟨Ao145,co145,eo145⟩:=Kd.R_slice HO530.out;subst eo145))
     go_meet
     case rel=>exact ⟨_,(true),zE,H',⟨by have:=HK1.out;first|omega|exact Nat.le_refl _⟩,⟨by (try simp only [hl499001_1]);(with_reducible repeat (first|apply Kd.N_alloc|apply Kd.N_drewN|apply Kd.N_drew));exact Kd.N_mono HO521.out (fun _ hk=>⟨hk.1.1.2.2.2.1,⟨hk.1.1.2.2.2.2.1,⟨hk.2,⟨hk.1.1.2.1,⟨hk.1.1.2.2.2.2.2.1,⟨hk.1.1.2.2.2.2.2.2.1,⟨hk.1.1.2.2.2.2.2.2.2.1,⟨hk.1.1.2.2.2.2.2.2.2.2.1,⟨hk.1.1.2.2.2.2.2.2.2.2.2.1,hk.1.1.2.2.2.2.2.2.2.2.2.2⟩⟩⟩⟩⟩⟩⟩⟩⟩)⟩,⟨by (try simp only [hl499001_1]);(with_reducible repeat (first|apply Kd.R_alloc|apply Kd.R_drewN|apply Kd.R_drew));exact Kd.R_mono HO530.out (fun _ hk=>⟨hk.1.2,hk.2⟩)⟩,⟨by (try simp only [hl499001_1]);(with_reducible repeat (first|apply Kd.R_alloc|apply Kd.R_drewN|apply Kd.R_drew));exact Kd.R_mono HO534.out (fun _ hk=>⟨hk.1.2,hk.2⟩)⟩,⟨by (try simp only [hl499001_1]);(with_reducible repeat (first|apply Kd.R_alloc|apply Kd.R_drewN|apply Kd.R_drew));exact Kd.R_mono HO544.out (fun _ hk=>⟨hk.1.2,hk.2⟩)⟩,⟨by (try simp only [hl499001_1]);(with_reducible repeat (first|apply Kd.V_alloc|apply Kd.V_drewN|apply Kd.V_drew));exact Kd.V_mono HO_499004.out (fun _ hk=>⟨hk.1.1.2.2.2.1,⟨hk.1.1.2.2.2.2.2.1,⟨hk.1.1.2.2.2.2.2.2.1,⟨hk.2,⟨hk.1.1.2.2.1,⟨hk.1.1.2.2.2.2.2.2.2.1,⟨hk.1.1.2.2.2.2.2.2.2.2.1,⟨hk.1.1.2.2.2.2.2.2.2.2.2.1,⟨hk.1.1.2.2.2.2.2.2.2.2.2.2.2.1,⟨hk.1.1.2.2.2.2.2.2.2.2.2.2.2.2,hk.1.1.2.2.2.2.2.2.2.2.2.2.1⟩⟩⟩⟩⟩⟩⟩⟩⟩⟩)⟩,⟨by (try simp only [hl499001_1]);(with_reducible repeat (first|apply Kd.V_alloc|apply Kd.V_drewN|apply Kd.V_drew));exact Kd.V_mono HO_499001.out (fun _ hk=>⟨hk.1.1.2.2.1,⟨hk.1.1.2.2.2.2.1,⟨hk.1.1.2.2.2.2.2.1,⟨hk.2,⟨hk.1.1.2.1,⟨hk.1.1.2.2.2.2.2.2.1,⟨hk.1.1.2.2.2.2.2.2.2.1,⟨hk.1.1.2.2.2.2.2.2.2.2.1,⟨hk.1.1.2.2.2.2.2.2.2.2.2.2.1,⟨hk.1.1.2.2.2.2.2.2.2.2.2.2.2,hk.1.1.2.2.2.2.2.2.2.2.2.1⟩⟩⟩⟩⟩⟩⟩⟩⟩⟩)⟩,⟨by (try simp only [hl499001_1]);(with_reducible repeat (first|apply Kd.V_alloc|apply Kd.V_drewN|apply Kd.V_drew));exact Kd.V_mono HO_499004.out (fun _ hk=>⟨hk.1.1.2.2.2.1,⟨hk.1.1.2.2.2.2.2.1,⟨hk.1.1.2.2.2.2.2.2.1,⟨hk.2,⟨hk.1.1.2.2.1,⟨hk.1.1.2.2.2.2.2.2.2.1,⟨hk.1.1.2.2.2.2.2.2.2.2.1,⟨hk.1.1.2.2.2.2.2.2.2.2.2.1,⟨hk.1.1.2.2.2.2.2.2.2.2.2.2.2.1,⟨hk.1.1.2.2.2.2.2.2.2.2.2.2.2.2,hk.1.1.2.2.2.2.2.2.2.2.2.2.1⟩⟩⟩⟩⟩⟩⟩⟩⟩⟩)⟩,⟨by (try simp only [hl499001_1]);(with_reducible repeat (first|apply Kd.R_alloc|apply Kd.R_drewN|apply Kd.R_drew));exact HO512.out⟩,⟨by (try simp only [hl499001_1]);(with_reducible repeat (first|refine blk_drewN ?_ _|refine blk_drew ?_|refine blk_alloc ?_ _));exact BK492.out⟩,⟨by (try simp only [hl499001_1]);(with_reducible repeat (first|refine blk_drewN ?_ _|refine blk_drew ?_|refine blk_alloc ?_ _));exact BK498.out⟩,⟨by (try simp only [hl499001_1]);(with_reducible repeat (first|refine blk_drewN ?_ _|refine blk_drew ?_|refine blk_alloc ?_ _));exact BK505.out⟩,⟨by (try simp only [hl499001_1]);(with_reducible repeat (first|refine blk_drewN ?_ _|refine blk_drew ?_|refine blk_alloc ?_ _));exact BK517.out⟩,⟨by (try simp only [hl499001_1]);(with_reducible repeat (first|refine blk_drewN ?_ _|refine blk_drew ?_|refine blk_alloc ?_ _));exact BK518.out⟩,⟨zJ HI481⟩,⟨zI HB HI481⟩⟩
    rw [if_pos c102] at H;have c102b0 : ((t527.length : Int) == (wrap64 ((wrap64 (1+t482))*t484)))=true:=beq_iff_eq.mpr c102;have c102b1 : ((t527.length : Int) != (wrap64 ((wrap64 (1+t482))*t484)))=false:=bne_eq_false_iff_eq.mpr c102;clear c102
    by_cases c103 : (t531.length : Int)=(wrap64 ((wrap64 (1+t482))*t484))
    ·rw [if_pos c103] at H;have c103b0 : ((t531.length : Int) == (wrap64 ((wrap64 (1+t482))*t484)))=true:=beq_iff_eq.mpr c103;have c103b1 : ((t531.length : Int) != (wrap64 ((wrap64 (1+t482))*t484)))=false:=bne_eq_false_iff_eq.mpr c103;clear c103;have H':=zo H;clear H;have hnb104:=NB517_492.out;have hnc104:=NB492_517.out;have hnb105:=NB517_498.out;have hnc105:=NB498_517.out;have hnb106:=NB517_505.out;have hnc106:=NB505_517.out;have hnb107:=NB517_518.out;have hnc107:=NB518_517.out;have hnb108:=NB517_481.out;have hnc108:=NB481_517.out;obtain ⟨hcz109_0,hfz109_0,hcz109_1,hfz109_1⟩:=zn2 BK517;have hnb110:=NB498_492.out;have hnc110:=NB492_498.out;have hnb111:=NB498_505.out;have hnc111:=NB505_498.out;have hnb112:=NB498_518.out;have hnc112:=NB518_498.out;have hnb113:=NB498_481.out;have hnc113:=NB481_498.out;obtain ⟨hcz114_0,hfz114_0,hcz114_1,hfz114_1,hcz114_2,hfz114_2,hcz114_3,hfz114_3,hcz114_4,hfz114_4,hcz114_5,hfz114_5,hcz114_6,hfz114_6,hcz114_7,hfz114_7,hcz114_8,hfz114_8⟩:=zn9 BK498
     go_wp2_with (first|(go_at_call 19;(with_reducible refine (soundserviceref04_Same.calls k1 t509 _ _ t510 t493 _ _ x499001_1 true _ ?side1 ?side2 ?side3 ?side4 A97.out).mono ?_);(case side1=>repeat (first|exact (Kd.R_reads' HO512.out).2.2|(with_reducible refine Kd.C_alloc ?_ _)|(with_reducible refine Kd.C_drewN ?_ _)|(with_reducible refine Kd.C_drew ?_)));(case side2=>exact (Kd.R_reads' HO512.out).2.1);(case side3=>repeat (first|exact (Kd.V_reads' HO_499001.out).2.2|(with_reducible refine Kd.C_alloc ?_ _)|(with_reducible refine Kd.C_drewN ?_ _)|(with_reducible refine Kd.C_drew ?_)));(case side4=>exact (Kd.V_reads' HO_499001.out).2.1);rintro e w115 ⟨rfl,hb⟩;replace HO_499001:=zo (Kd.V_below (zV HO_499001) hb);replace HO_499004:=zo (Kd.V_below (zV HO_499004) hb);replace HO508:=zo (Kd.N_below (zN HO508) hb);replace HO512:=zo (Kd.R_below (zR HO512) hb);replace HO521:=zo (Kd.N_below (zN HO521) hb);replace HO525:=zo (Kd.N_below (zN HO525) hb);replace HO530:=zo (Kd.R_below (zR HO530) hb);replace HO534:=zo (Kd.R_below (zR HO534) hb);replace HO540:=zo (Kd.N_below (zN HO540) hb);replace HO544:=zo (Kd.R_below (zR HO544) hb);replace BK492:=zo (blk_below (zB BK492) hb);replace BK498:=zo (blk_below (zB BK498) hb);replace BK505:=zo (blk_below (zB BK505) hb);replace BK517:=zo (blk_below (zB BK517) hb);replace BK518:=zo (blk_below (zB BK518) hb);replace HB:=zo (below_step (zI HB HI481) hb);replace HI481:=zo (IsS71.below (zJ HI481) hb);(try clear hb);obtain ⟨Ao116,co116,eo116⟩:=Kd.R_slice HO530.out;subst eo116;obtain ⟨Ao117,co117,eo117⟩:=Kd.R_slice HO534.out;subst eo117;obtain ⟨Ao118,co118,eo118⟩:=Kd.R_slice HO544.out;subst eo118))
     go_meet
     case rel=>exact ⟨_,(((t541.length : Int) != (wrap64 ((wrap64 (1+t482))*t484)))),zE,H',⟨by have:=HK1.out;first|omega|exact Nat.le_refl _⟩,⟨by (try simp only [hl499001_1]);(with_reducible repeat (first|apply Kd.N_alloc|apply Kd.N_drewN|apply Kd.N_drew));exact Kd.N_mono HO521.out (fun _ hk=>⟨hk.1.1.2.2.2.1,⟨hk.1.1.2.2.2.2.1,⟨hk.2,⟨hk.1.1.2.1,⟨hk.1.1.2.2.2.2.2.1,⟨hk.1.1.2.2.2.2.2.2.1,⟨hk.1.1.2.2.2.2.2.2.2.1,⟨hk.1.1.2.2.2.2.2.2.2.2.1,⟨hk.1.1.2.2.2.2.2.2.2.2.2.1,hk.1.1.2.2.2.2.2.2.2.2.2.2⟩⟩⟩⟩⟩⟩⟩⟩⟩)⟩,⟨by (try simp only [hl499001_1]);(with_reducible repeat (first|apply Kd.R_alloc|apply Kd.R_drewN|apply Kd.R_drew));exact Kd.R_mono HO530.out (fun _ hk=>⟨hk.1.2,hk.2⟩)⟩,⟨by (try simp only [hl499001_1]);(with_reducible repeat (first|apply Kd.R_alloc|apply Kd.R_drewN|apply Kd.R_drew));exact Kd.R_mono HO534.out (fun _ hk=>⟨hk.1.2,hk.2⟩)⟩,⟨by (try simp only [hl499001_1]);(with_reducible repeat (first|apply Kd.R_alloc|apply Kd.R_drewN|apply Kd.R_drew));exact Kd.R_mono HO544.out (fun _ hk=>⟨hk.1.2,hk.2⟩)⟩,⟨by (try simp only [hl499001_1]);(with_reducible repeat (first|apply Kd.V_alloc|apply Kd.V_drewN|apply Kd.V_drew));exact Kd.V_mono HO_499004.out (fun _ hk=>⟨hk.1.1.2.2.2.1,⟨hk.1.1.2.2.2.2.2.1,⟨hk.1.1.2.2.2.2.2.2.1,⟨hk.2,⟨hk.1.1.2.2.1,⟨hk.1.1.2.2.2.2.2.2.2.1,⟨hk.1.1.2.2.2.2.2.2.2.2.1,⟨hk.1.1.2.2.2.2.2.2.2.2.2.1,⟨hk.1.1.2.2.2.2.2.2.2.2.2.2.2.1,⟨hk.1.1.2.2.2.2.2.2.2.2.2.2.2.2,hk.1.1.2.2.2.2.2.2.2.2.2.2.1⟩⟩⟩⟩⟩⟩⟩⟩⟩⟩)⟩,⟨by (try simp only [hl499001_1]);(with_reducible repeat (first|apply Kd.V_alloc|apply Kd.V_drewN|apply Kd.V_drew));exact Kd.V_mono HO_499001.out (fun _ hk=>⟨hk.1.1.2.2.1,⟨hk.1.1.2.2.2.2.1,⟨hk.1.1.2.2.2.2.2.1,⟨hk.2,⟨hk.1.1.2.1,⟨hk.1.1.2.2.2.2.2.2.1,⟨hk.1.1.2.2.2.2.2.2.2.1,⟨hk.1.1.2.2.2.2.2.2.2.2.1,⟨hk.1.1.2.2.2.2.2.2.2.2.2.2.1,⟨hk.1.1.2.2.2.2.2.2.2.2.2.2.2,hk.1.1.2.2.2.2.2.2.2.2.2.1⟩⟩⟩⟩⟩⟩⟩⟩⟩⟩)⟩,⟨by (try simp only [hl499001_1]);(with_reducible repeat (first|apply Kd.V_alloc|apply Kd.V_drewN|apply Kd.V_drew));exact Kd.V_mono HO_499004.out (fun _ hk=>⟨hk.1.1.2.2.2.1,⟨hk.1.1.2.2.2.2.2.1,⟨hk.1.1.2.2.2.2.2.2.1,⟨hk.2,⟨hk.1.1.2.2.1,⟨hk.1.1.2.2.2.2.2.2.2.1,⟨hk.1.1.2.2.2.2.2.2.2.2.1,⟨hk.1.1.2.2.2.2.2.2.2.2.2.1,⟨hk.1.1.2.2.2.2.2.2.2.2.2.2.2.1,⟨hk.1.1.2.2.2.2.2.2.2.2.2.2.2.2,hk.1.1.2.2.2.2.2.2.2.2.2.2.1⟩⟩⟩⟩⟩⟩⟩⟩⟩⟩)⟩,⟨by (try simp only [hl499001_1]);(with_reducible repeat (first|apply Kd.R_alloc|apply Kd.R_drewN|apply Kd.R_drew));exact HO512.out⟩,⟨by (try simp only [hl499001_1]);(with_reducible repeat (first|refine blk_drewN ?_ _|refine blk_drew ?_|refine blk_alloc ?_ _));exact BK492.out⟩,⟨by (try simp only [hl499001_1]);(with_reducible repeat (first|refine blk_drewN ?_ _|refine blk_drew ?_|refine blk_alloc ?_ _));exact BK498.out⟩,⟨by (try simp only [hl499001_1]);(with_reducible repeat (first|refine blk_drewN ?_ _|refine blk_drew ?_|refine blk_alloc ?_ _));exact BK505.out⟩,⟨by (try simp only [hl499001_1]);(with_reducible repeat (first|refine blk_drewN ?_ _|refine blk_drew ?_|refine blk_alloc ?_ _));exact BK517.out⟩,⟨by (try simp only [hl499001_1]);(with_reducible repeat (first|refine blk_drewN ?_ _|refine blk_drew ?_|refine blk_alloc ?_ _));exact BK518.out⟩,⟨zJ HI481⟩,⟨zI HB HI481⟩⟩
    rw [if_neg c103] at H;have c103b0 : ((t531.length : Int) == (wrap64 ((wrap64 (1+t482))*t484)))=false:=beq_eq_false_iff_ne.mpr c103;have c103b1 : ((t531.length : Int) != (wrap64 ((wrap64 (1+t482))*t484)))=true:=bne_iff_ne.mpr c103;have H':=zo H;clear H;have hnb119:=NB517_492.out;have hnc119:=NB492_517.out;have hnb120:=NB517_498.out;have hnc120:=NB498_517.out;have hnb121:=NB517_505.out;have hnc121:=NB505_517.out;have hnb122:=NB517_518.out;have hnc122:=NB518_517.out;have hnb123:=NB517_481.out;have hnc123:=NB481_517.out;obtain ⟨hcz124_0,hfz124_0,hcz124_1,hfz124_1⟩:=zn2 BK517;have hnb125:=NB498_492.out;have hnc125:=NB492_498.out;have hnb126:=NB498_505.out;have hnc126:=NB505_498.out;have hnb127:=NB498_518.out;have hnc127:=NB518_498.out;have hnb128:=NB498_481.out;have hnc128:=NB481_498.out;obtain ⟨hcz129_0,hfz129_0,hcz129_1,hfz129_1,hcz129_2,hfz129_2,hcz129_3,hfz129_3,hcz129_4,hfz129_4,hcz129_5,hfz129_5,hcz129_6,hfz129_6,hcz129_7,hfz129_7,hcz129_8,hfz129_8⟩:=zn9 BK498
    go_wp2_with (first|(go_at_call 19;(with_reducible refine (soundserviceref04_Same.calls k1 t509 _ _ t510 t493 _ _ x499001_1 true _ ?side1 ?side2 ?side3 ?side4 A97.out).mono ?_);(case side1=>repeat (first|exact (Kd.R_reads' HO512.out).2.2|(with_reducible refine Kd.C_alloc ?_ _)|(with_reducible refine Kd.C_drewN ?_ _)|(with_reducible refine Kd.C_drew ?_)));(case side2=>exact (Kd.R_reads' HO512.out).2.1);(case side3=>repeat (first|exact (Kd.V_reads' HO_499001.out).2.2|(with_reducible refine Kd.C_alloc ?_ _)|(with_reducible refine Kd.C_drewN ?_ _)|(with_reducible refine Kd.C_drew ?_)));(case side4=>exact (Kd.V_reads' HO_499001.out).2.1);rintro e w130 ⟨rfl,hb⟩;replace HO_499001:=zo (Kd.V_below (zV HO_499001) hb);replace HO_499004:=zo (Kd.V_below (zV HO_499004) hb);replace HO508:=zo (Kd.N_below (zN HO508) hb);replace HO512:=zo (Kd.R_below (zR HO512) hb);replace HO521:=zo (Kd.N_below (zN HO521) hb);replace HO525:=zo (Kd.N_below (zN HO525) hb);replace HO530:=zo (Kd.R_below (zR HO530) hb);replace HO534:=zo (Kd.R_below (zR HO534) hb);replace HO540:=zo (Kd.N_below (zN HO540) hb);replace HO544:=zo (Kd.R_below (zR HO544) hb);replace BK492:=zo (blk_below (zB BK492) hb);replace BK498:=zo (blk_below (zB BK498) hb);replace BK505:=zo (blk_below (zB BK505) hb);replace BK517:=zo (blk_below (zB BK517) hb);replace BK518:=zo (blk_below (zB BK518) hb);replace HB:=zo (below_step (zI HB HI481) hb);replace HI481:=zo (IsS71.below (zJ HI481) hb);(try clear hb);obtain ⟨Ao131,co131,eo131⟩:=Kd.R_slice HO530.out;subst eo131;obtain ⟨Ao132,co132,eo132⟩:=Kd.R_slice HO534.out;subst eo132))
    go_meet
    case rel=>exact ⟨_,(true),zE,H',⟨by have:=HK1.out;first|omega|exact Nat.le_refl _⟩,⟨by (try simp only [hl499001_1]);(with_reducible repeat (first|apply Kd.N_alloc|apply Kd.N_drewN|apply Kd.N_drew));exact Kd.N_mono HO521.out (fun _ hk=>⟨hk.1.1.2.2.2.1,⟨hk.1.1.2.2.2.2.1,⟨hk.2,⟨hk.1.1.2.1,⟨hk.1.1.2.2.2.2.2.1,⟨hk.1.1.2.2.2.2.2.2.1,⟨hk.1.1.2.2.2.2.2.2.2.1,⟨hk.1.1.2.2.2.2.2.2.2.2.1,⟨hk.1.1.2.2.2.2.2.2.2.2.2.1,hk.1.1.2.2.2.2.2.2.2.2.2.2⟩⟩⟩⟩⟩⟩⟩⟩⟩)⟩,⟨by (try simp only [hl499001_1]);(with_reducible repeat (first|apply Kd.R_alloc|apply Kd.R_drewN|apply Kd.R_drew));exact Kd.R_mono HO530.out (fun _ hk=>⟨hk.1.2,hk.2⟩)⟩,⟨by (try simp only [hl499001_1]);(with_reducible repeat (first|apply Kd.R_alloc|apply Kd.R_drewN|apply Kd.R_drew));exact Kd.R_mono HO534.out (fun _ hk=>⟨hk.1.2,hk.2⟩)⟩,⟨by (try simp only [hl499001_1]);(with_reducible repeat (first|apply Kd.R_alloc|apply Kd.R_drewN|apply Kd.R_drew));exact Kd.R_mono HO544.out (fun _ hk=>⟨hk.1.2,hk.2⟩)⟩,⟨by (try simp only [hl499001_1]);(with_reducible repeat (first|apply Kd.V_alloc|apply Kd.V_drewN|apply Kd.V_drew));exact Kd.V_mono HO_499004.out (fun _ hk=>⟨hk.1.1.2.2.2.1,⟨hk.1.1.2.2.2.2.2.1,⟨hk.1.1.2.2.2.2.2.2.1,⟨hk.2,⟨hk.1.1.2.2.1,⟨hk.1.1.2.2.2.2.2.2.2.1,⟨hk.1.1.2.2.2.2.2.2.2.2.1,⟨hk.1.1.2.2.2.2.2.2.2.2.2.1,⟨hk.1.1.2.2.2.2.2.2.2.2.2.2.2.1,⟨hk.1.1.2.2.2.2.2.2.2.2.2.2.2.2,hk.1.1.2.2.2.2.2.2.2.2.2.2.1⟩⟩⟩⟩⟩⟩⟩⟩⟩⟩)⟩,⟨by (try simp only [hl499001_1]);(with_reducible repeat (first|apply Kd.V_alloc|apply Kd.V_drewN|apply Kd.V_drew));exact Kd.V_mono HO_499001.out (fun _ hk=>⟨hk.1.1.2.2.1,⟨hk.1.1.2.2.2.2.1,⟨hk.1.1.2.2.2.2.2.1,⟨hk.2,⟨hk.1.1.2.1,⟨hk.1.1.2.2.2.2.2.2.1,⟨hk.1.1.2.2.2.2.2.2.2.1,⟨hk.1.1.2.2.2.2.2.2.2.2.1,⟨hk.1.1.2.2.2.2.2.2.2.2.2.2.1,⟨hk.1.1.2.2.2.2.2.2.2.2.2.2.2,hk.1.1.2.2.2.2.2.2.2.2.2.1⟩⟩⟩⟩⟩⟩⟩⟩⟩⟩)⟩,⟨by (try simp only [hl499001_1]);(with_reducible repeat (first|apply Kd.V_alloc|apply Kd.V_drewN|apply Kd.V_drew));exact Kd.V_mono HO_499004.out (fun _ hk=>⟨hk.1.1.2.2.2.1,⟨hk.1.1.2.2.2.2.2.1,⟨hk.1.1.2.2.2.2.2.2.1,⟨hk.2,⟨hk.1.1.2.2.1,⟨hk.1.1.2.2.2.2.2.2.2.1,⟨hk.1.1.2.2.2.2.2.2.2.2.1,⟨hk.1.1.2.2.2.2.2.2.2.2.2.1,⟨hk.1.1.2.2.2.2.2.2.2.2.2.2.2.1,⟨hk.1.1.2.2.2.2.2.2.2.2.2.2.2.2,hk.1.1.2.2.2.2.2.2.2.2.2.2.1⟩⟩⟩⟩⟩⟩⟩⟩⟩⟩)⟩,⟨by (try simp only [hl499001_1]);(with_reducible repeat (first|apply Kd.R_alloc|apply Kd.R_drewN|apply Kd.R_drew));exact HO512.out⟩,⟨by (try simp only [hl499001_1]);(with_reducible repeat (first|refine blk_drewN ?_ _|refine blk_drew ?_|refine blk_alloc ?_ _));exact BK492.out⟩,⟨by (try simp only [hl499001_1]);(with_reducible repeat (first|refine blk_drewN ?_ _|refine blk_drew ?_|refine blk_alloc ?_ _));exact BK498.out⟩,⟨by (try simp only [hl499001_1]);(with_reducible repeat (first|refine blk_drewN ?_ _|refine blk_drew ?_|refine blk_alloc ?_ _));exact BK505.out⟩,⟨by (try simp only [hl499001_1]);(with_reducible repeat (first|refine blk_drewN ?_ _|refine blk_drew ?_|refine blk_alloc ?_ _));exact BK517.out⟩,⟨by (try simp only [hl499001_1]);(with_reducible repeat (first|refine blk_drewN ?_ _|refine blk_drew ?_|refine blk_alloc ?_ _));exact BK518.out⟩,⟨zJ HI481⟩,⟨zI HB HI481⟩⟩
   case rest=>
    clear HC56
    try clear c1
    try clear c2
    try clear p2
    try clear c3
    try clear c4
    try clear p4
    try clear q4
    try clear hx4
    try clear hf4
    try clear c5
    try clear c6
    try clear p6
    try clear c7
    try clear c8
    try clear c9
    try clear c10
    try clear c11
    try clear c12
    try clear c13
    try clear c14
    try clear c15
    try clear c16
    try clear c17
    try clear c18
    try clear c19
    try clear c26
    try clear c27
    try clear c28
    try clear c34
    try clear c35
    try clear c37
    try clear c37b0
    try clear c37b1
    try clear c38
    try clear c38b0
    try clear c39
    try clear c39b0
    try clear p41
    try clear q41
    try clear hx41
    try clear hf41
    try clear c42
    try clear c43
    try clear p49
    try clear q49
    try clear hx49
    try clear c53
    try clear c54
    try clear c59
    try clear c60
    try clear c61
    try clear c64
    try clear p64
    try clear c65
    try clear c74
    try clear c75
    try clear c76
    try clear c77
    try clear c78
    try clear c81
    try clear c82
    try clear c83
    try clear c84
    try clear c96
    try clear c96b0
    try clear c96b1
    try clear c98
    try clear c99
    try clear c99b0
    try clear c99b1
    try clear c100
    try clear c100b0
    try clear c100b1
    try clear c101
    try clear c101b0
    try clear c101b1
    try clear c102
    try clear c102b0
    try clear c102b1
    try clear c103
    try clear c103b0
    try clear c103b1
    try clear c104
    try clear c105
    try clear c106
    try clear c107
    try clear c108
    try clear c110
    try clear c111
    try clear c112
    try clear c113
    try clear c119
    try clear c120
    try clear c121
    try clear c122
    try clear c123
    try clear c125
    try clear c126
    try clear c127
    try clear c128
    try clear c133
    try clear c134
    try clear c135
    try clear c136
    try clear c137
    try clear c139
    try clear c140
    try clear c141
    try clear c142
    try clear c146
    try clear c147
    try clear c148
    try clear c149
    try clear c150
    try clear c152
    try clear c153
    try clear c154
    try clear c155
    try clear c158
    try clear c159
    try clear c160
    try clear c161
    try clear c162
    try clear c164
    try clear c165
    try clear c166
    try clear c167
    try clear c170
    try clear c171
    try clear c172
    try clear c173
    try clear c174
    try clear c176
    try clear c177
    try clear c178
    try clear c179
    try clear c182
    try clear c183
    try clear c184
    try clear c185
    try clear c186
    try clear c188
    try clear c189
    try clear c190
    try clear c191
    try clear hx41_0
    try clear hx499_0
    try clear p2
    try clear p41
    try clear p499
    try clear p6
    try clear q41
    try clear q499
    obtain ⟨kq,x159_55,rfl,HA,HJ55,HO_16,HO_18,HO_20,HO_22,HO_493002,HO_499001,HO_499004,HO_518001,BK492,BK498,BK505,BK517,BK518,HI481,HB⟩:=hcut
    cases kq with
    | zero=>exact absurd HA.out (by simp [soundservicelaw23_MixtureAlone.j1])
    | succ kj55=>
     have H:=HA.out;clear HA;simp only [soundservicelaw23_MixtureAlone.j1] at H
     by_cases c194 : x159_55=true
     ·subst c194;have H1:=H;rw [if_pos rfl] at H1;clear H;have H:=H1;clear H1;exact absurd (H.trans (congrArg some HR_.out)) (by simp)
     replace c194:=Bool.eq_false_iff.mpr c194;subst c194;have H1:=H;rw [if_neg (show ¬ (false=true) by decide)] at H1;clear H;have H:=H1;clear H1;have H':=zo H;clear H;obtain ⟨Ao195,co195,eo195⟩:=Kd.R_slice HO_22.out;subst eo195
     go_wp2
     go_loopg [162] kj55 (fun kq v162 w'=>∃ (x162_3 : Int),v162 = .int .i64 x162_3∧Aside0 (soundservicelaw23_MixtureAlone.l1 kq (wrap64 (1+t482)) t484 t519 t527 t531 t541 (t541.length : Int) x162_3 t526=some r)∧Aside0 (kq≤kj55)∧Aside0 (Kd.N k54 54 w' w.heap.size (fun k_=>some k_≠(v529 : Value).ownBlock∧some k_≠(v533 : Value).ownBlock∧some k_≠((.slice Ao195 t541.length co195) : Value).ownBlock∧some k_≠((.slice Ao80 t510.length co80) : Value).ownBlock∧k_≠gb492∧k_≠gb498∧k_≠gb505∧k_≠gb517∧k_≠gb518∧k_≠g481) (.slice Ao88 t519.length co88) t519)∧Aside0 (Kd.R (Kd.int .i64) 2 w' w.heap.size (fun k_=>some k_≠(v533 : Value).ownBlock∧some k_≠((.slice Ao195 t541.length co195) : Value).ownBlock) v529 t527)∧Aside0 (Kd.R (Kd.int .i64) 2 w' w.heap.size (fun k_=>some k_≠(v529 : Value).ownBlock∧some k_≠((.slice Ao195 t541.length co195) : Value).ownBlock) v533 t531)∧Aside0 (Kd.R (Kd.int .i64) 2 w' w.heap.size (fun k_=>some k_≠(v529 : Value).ownBlock∧some k_≠(v533 : Value).ownBlock) (.slice Ao195 t541.length co195) t541)∧Aside0 (Kd.V (Kd.int .i64) 3 w' w.heap.size (fun k_=>some k_≠((.slice Ao88 t519.length co88) : Value).ownBlock∧some k_≠(v529 : Value).ownBlock∧some k_≠(v533 : Value).ownBlock∧some k_≠((.slice Ao195 t541.length co195) : Value).ownBlock∧some k_≠((.slice Ao80 t510.length co80) : Value).ownBlock∧k_≠gb492∧k_≠gb498∧k_≠gb505∧k_≠gb517∧k_≠gb518∧k_≠g481) (.slice Ao17 t488.length co17) t488)∧Aside0 (Kd.V (Kd.int .i32) 21 w' w.heap.size (fun k_=>some k_≠((.slice Ao88 t519.length co88) : Value).ownBlock∧some k_≠(v529 : Value).ownBlock∧some k_≠(v533 : Value).ownBlock∧some k_≠((.slice Ao195 t541.length co195) : Value).ownBlock∧some k_≠((.slice Ao80 t510.length co80) : Value).ownBlock∧k_≠gb492∧k_≠gb498∧k_≠gb505∧k_≠gb517∧k_≠gb518∧k_≠g481) (.slice Ao24 x499001_1.length co24) x499001_1)∧Aside0 (Kd.V (Kd.int .i64) 3 w' w.heap.size (fun k_=>some k_≠((.slice Ao88 t519.length co88) : Value).ownBlock∧some k_≠(v529 : Value).ownBlock∧some k_≠(v533 : Value).ownBlock∧some k_≠((.slice Ao195 t541.length co195) : Value).ownBlock∧some k_≠((.slice Ao80 t510.length co80) : Value).ownBlock∧k_≠gb492∧k_≠gb498∧k_≠gb505∧k_≠gb517∧k_≠gb518∧k_≠g481) (.slice Ao17 t488.length co17) t488)∧Aside0 (Kd.R (Kd.int .i32) 21 w' w.heap.size (fun _=>True) (.slice Ao80 t510.length co80) t510)∧Aside0 (w'.heap[gb492]?=some (.cells #[.int .i64 t486,.int .i64 t487,(.slice Ao17 t488.length co17)] 50 (0,0)))∧Aside0 (w'.heap[gb498]?=some (.cells #[.int .i64 t493,(.slice Ao24 x499001_1.length co24),.int .i64 t486,.int .i64 t487,(.slice Ao17 t488.length co17),.int .i64 65536,.int .i64 65536,.int .i64 0,.int .i64 0] 54 (0,0)))∧Aside0 (w'.heap[gb505]?=some (.cells #[.int .i64 t501,.int .i64 t502,.int .i64 t503] 24 (0,0)))∧Aside0 (w'.heap[gb517]?=some (.cells #[.int .i64 t509,(.slice Ao80 t510.length co80)] 43 (0,0)))∧Aside0 (w'.heap[gb518]?=some (.cells #[.int .i64 t513,.int .i64 t514,.int .i64 t515] 24 (0,0)))∧Aside0 (IsS71 w w' g481 t526)∧Aside0 (Below w.heap.size w w'))
     case atStart=>exact ⟨(0),zE,H',⟨Nat.le_refl _⟩,⟨by (try simp only [hl499001_1]);(with_reducible repeat (first|apply Kd.N_alloc|apply Kd.N_drewN|apply Kd.N_drew));exact HO_16.out⟩,⟨by (try simp only [hl499001_1]);(with_reducible repeat (first|apply Kd.R_alloc|apply Kd.R_drewN|apply Kd.R_drew));exact HO_18.out⟩,⟨by (try simp only [hl499001_1]);(with_reducible repeat (first|apply Kd.R_alloc|apply Kd.R_drewN|apply Kd.R_drew));exact HO_20.out⟩,⟨by (try simp only [hl499001_1]);(with_reducible repeat (first|apply Kd.R_alloc|apply Kd.R_drewN|apply Kd.R_drew));exact HO_22.out⟩,⟨by (try simp only [hl499001_1]);(with_reducible repeat (first|apply Kd.V_alloc|apply Kd.V_drewN|apply Kd.V_drew));exact HO_493002.out⟩,⟨by (try simp only [hl499001_1]);(with_reducible repeat (first|apply Kd.V_alloc|apply Kd.V_drewN|apply Kd.V_drew));exact HO_499001.out⟩,⟨by (try simp only [hl499001_1]);(with_reducible repeat (first|apply Kd.V_alloc|apply Kd.V_drewN|apply Kd.V_drew));exact HO_499004.out⟩,⟨by (try simp only [hl499001_1]);(with_reducible repeat (first|apply Kd.R_alloc|apply Kd.R_drewN|apply Kd.R_drew));exact HO_518001.out⟩,⟨by (try simp only [hl499001_1]);(with_reducible repeat (first|refine blk_drewN ?_ _|refine blk_drew ?_|refine blk_alloc ?_ _));exact BK492.out⟩,⟨by (try simp only [hl499001_1]);(with_reducible repeat (first|refine blk_drewN ?_ _|refine blk_drew ?_|refine blk_alloc ?_ _));exact BK498.out⟩,⟨by (try simp only [hl499001_1]);(with_reducible repeat (first|refine blk_drewN ?_ _|refine blk_drew ?_|refine blk_alloc ?_ _));exact BK505.out⟩,⟨by (try simp only [hl499001_1]);(with_reducible repeat (first|refine blk_drewN ?_ _|refine blk_drew ?_|refine blk_alloc ?_ _));exact BK517.out⟩,⟨by (try simp only [hl499001_1]);(with_reducible repeat (first|refine blk_drewN ?_ _|refine blk_drew ?_|refine blk_alloc ?_ _));exact BK518.out⟩,⟨zJ HI481⟩,⟨zI HB HI481⟩⟩
     case round=>
      clear H'
      try clear c1
      try clear c2
      try clear p2
      try clear c3
      try clear c4
      try clear p4
      try clear q4
      try clear hx4
      try clear hf4
      try clear c5
      try clear c6
      try clear p6
      try clear c7
      try clear c8
      try clear c9
      try clear c10
      try clear c11
      try clear c12
      try clear c13
      try clear c14
      try clear c15
      try clear c16
      try clear c17
      try clear c18
      try clear c19
      try clear c26
      try clear c27
      try clear c28
      try clear c34
      try clear c35
      try clear c37
      try clear c37b0
      try clear c37b1
      try clear c38
      try clear c38b0
      try clear c39
      try clear c39b0
      try clear p41
      try clear q41
      try clear hx41
      try clear hf41
      try clear c42
      try clear c43
      try clear p49
      try clear q49
      try clear hx49
      try clear c53
      try clear c54
      try clear c59
      try clear c60
      try clear c61
      try clear c64
      try clear p64
      try clear c65
      try clear c74
      try clear c75
      try clear c76
      try clear c77
      try clear c78
      try clear c81
      try clear c82
      try clear c83
      try clear c84
      try clear c96
      try clear c96b0
      try clear c96b1
      try clear c98
      try clear c99
      try clear c99b0
      try clear c99b1
      try clear c100
      try clear c100b0
      try clear c100b1
      try clear c101
      try clear c101b0
      try clear c101b1
      try clear c102
      try clear c102b0
      try clear c102b1
      try clear c103
      try clear c103b0
      try clear c103b1
      try clear c104
      try clear c105
      try clear c106
      try clear c107
      try clear c108
      try clear c110
      try clear c111
      try clear c112
      try clear c113
      try clear c119
      try clear c120
      try clear c121
      try clear c122
      try clear c123
      try clear c125
      try clear c126
      try clear c127
      try clear c128
      try clear c133
      try clear c134
      try clear c135
      try clear c136
      try clear c137
      try clear c139
      try clear c140
      try clear c141
      try clear c142
      try clear c146
      try clear c147
      try clear c148
      try clear c149
      try clear c150
      try clear c152
      try clear c153
      try clear c154
      try clear c155
      try clear c158
      try clear c159
      try clear c160
      try clear c161
      try clear c162
      try clear c164
      try clear c165
      try clear c166
      try clear c167
      try clear c170
      try clear c171
      try clear c172
      try clear c173
      try clear c174
      try clear c176
      try clear c177
      try clear c178
      try clear c179
      try clear c182
      try clear c183
      try clear c184
      try clear c185
      try clear c186
      try clear c188
      try clear c189
      try clear c190
      try clear c191
      try clear c194
      try clear hx41_0
      try clear hx499_0
      try clear p2
      try clear p4
      try clear p41
      try clear p49
      try clear p499
      try clear p6
      try clear p64
      try clear q4
      try clear q41
      try clear q49
      try clear q499
      obtain ⟨x162_3,rfl,HA,HK3,HO_16,HO_18,HO_20,HO_160,HO_493002,HO_499001,HO_499004,HO_518001,BK492,BK498,BK505,BK517,BK518,HI481,HB⟩:=hrel
      cases gk with
      | zero=>exact absurd HA.out (by simp [soundservicelaw23_MixtureAlone.l1])
      | succ k3=>
       have H:=HA.out;clear HA;simp only [soundservicelaw23_MixtureAlone.l1] at H
       by_cases c196 : x162_3<(t541.length : Int)
       ·rw [if_pos c196] at H;have c196b0:=decide_eq_true c196;clear c196
        by_cases c197 : 0≤x162_3
        rotate_left
        ·rw [if_neg c197] at H;exact absurd H (by simp)
        rw [if_pos c197] at H;have c197b0:=decide_eq_true c197;clear c197
        by_cases c198 : x162_3<(t541.length : Int)
        rotate_left
        ·rw [if_neg c198] at H;exact absurd H (by simp)
        rw [if_pos c198] at H;have c198b0:=decide_eq_true c198;clear c198
        by_cases c199 : x162_3<(t527.length : Int)
        rotate_left
        ·rw [if_neg c199] at H;exact absurd H (by simp)
        rw [if_pos c199] at H;have c199b0:=decide_eq_true c199;clear c199
        by_cases c200 : x162_3<(t531.length : Int)
        rotate_left
        ·rw [if_neg c200] at H;exact absurd H (by simp)
        rw [if_pos c200] at H;have c200b0:=decide_eq_true c200;clear c200
        by_cases c201 : (rd t541 x162_3)=(wrap64 ((rd t527 x162_3)+(rd t531 x162_3)))
        rotate_left
        ·rw [if_neg c201] at H;have c201b0 : ((rd t541 x162_3) == (wrap64 ((rd t527 x162_3)+(rd t531 x162_3))))=false:=beq_eq_false_iff_ne.mpr c201;have c201b1 : ((rd t541 x162_3) != (wrap64 ((rd t527 x162_3)+(rd t531 x162_3))))=true:=bne_iff_ne.mpr c201;exact absurd (H.trans (congrArg some HR_.out)) (by simp)
        rw [if_pos c201] at H;have c201b0 : ((rd t541 x162_3) == (wrap64 ((rd t527 x162_3)+(rd t531 x162_3))))=true:=beq_iff_eq.mpr c201;have c201b1 : ((rd t541 x162_3) != (wrap64 ((rd t527 x162_3)+(rd t531 x162_3))))=false:=bne_eq_false_iff_eq.mpr c201;clear c201;have H':=zo H;clear H
        try go_wp2
        have n0_:=zo (Kd.N_drew HO_16.out);have n1_:=zo (Kd.R_drew HO_18.out);have n2_:=zo (Kd.R_drew HO_20.out);have n3_:=zo (Kd.R_drew HO_160.out);have n4_:=zo (Kd.V_drew HO_493002.out);have n5_:=zo (Kd.V_drew HO_499001.out);have n6_:=zo (Kd.V_drew HO_499004.out);have n7_:=zo (Kd.R_drew HO_518001.out);have n8_:=zo (blk_drew BK492.out);have n9_:=zo (blk_drew BK498.out);have n10_:=zo (blk_drew BK505.out);have n11_:=zo (blk_drew BK517.out);have n12_:=zo (blk_drew BK518.out);have n13_:=zo (IsS71.drew HI481.out);have n14_:=zo (below_drew1 HB.out);clear HO_16;clear HO_18;clear HO_20;clear HO_160;clear HO_493002;clear HO_499001;clear HO_499004;clear HO_518001;clear BK492;clear BK498;clear BK505;clear BK517;clear BK518;clear HI481;clear HB;have HO_16:=n0_;have HO_18:=n1_;have HO_20:=n2_;have HO_160:=n3_;have HO_493002:=n4_;have HO_499001:=n5_;have HO_499004:=n6_;have HO_518001:=n7_;have BK492:=n8_;have BK498:=n9_;have BK505:=n10_;have BK517:=n11_;have BK518:=n12_;have HI481:=n13_;have HB:=n14_;clear n0_ n1_ n2_ n3_ n4_ n5_ n6_ n7_ n8_ n9_ n10_ n11_ n12_ n13_ n14_;have p546 : 0≤(x162_3 : Int):=zD;have q546 : x162_3<(t541.length : Int):=zD;obtain ⟨ad546,e546,hx546_0⟩:=Kd.at_int (Kd.R_reads' HO_160.out).2.2 x162_3 p546 q546
        cases e546
        replace p546:=eq_true p546;replace q546:=eq_true q546;obtain ⟨Ao203,co203,eo203⟩:=Kd.R_slice HO_18.out;(first|subst eo203|(injection eo203 with f1_ f2_ f3_;have f4_:=f1_.symm;have f5_:=f3_.symm;clear f1_ f2_ f3_;subst f4_;subst f5_));have p547 : 0≤(x162_3 : Int):=zD;have q547 : x162_3<(t527.length : Int):=zD;obtain ⟨ad547,e547,hx547_0⟩:=Kd.at_int (Kd.R_reads' HO_18.out).2.2 x162_3 p547 q547
        cases e547
        replace p547:=eq_true p547;replace q547:=eq_true q547;obtain ⟨Ao204,co204,eo204⟩:=Kd.R_slice HO_20.out;(first|subst eo204|(injection eo204 with f1_ f2_ f3_;have f4_:=f1_.symm;have f5_:=f3_.symm;clear f1_ f2_ f3_;subst f4_;subst f5_));have p548 : 0≤(x162_3 : Int):=zD;have q548 : x162_3<(t531.length : Int):=zD;obtain ⟨ad548,e548,hx548_0⟩:=Kd.at_int (Kd.R_reads' HO_20.out).2.2 x162_3 p548 q548
        cases e548
        replace p548:=eq_true p548;replace q548:=eq_true q548;refine start_ (n:=14) (S:=fun w'=>w'.cell? (ad546.add (x162_3).toNat)=some (.int .i64 (rd t541 x162_3))∧w'.cell? (ad547.add (x162_3).toNat)=some (.int .i64 (rd t527 x162_3))∧w'.cell? (ad548.add (x162_3).toNat)=some (.int .i64 (rd t531 x162_3))) (ds:=[]) #[false,false,false,false,false,false,false,false,false,false,false,false,false,false] zk rfl rfl ⟨hx546_0,hx547_0,hx548_0⟩ (fun hHeld=>?_);refine with_tabW soundservicelaw23_MixtureAlone.tab23 soundservicelaw23_MixtureAlone.bits23 (fun HT_ HW_=>?_);generalize wr.drew=w202 at HO_16 HO_18 HO_20 HO_160 HO_493002 HO_499001 HO_499004 HO_518001 BK492 BK498 BK505 BK517 BK518 HI481 HB hx546_0 hx547_0 hx548_0 hHeld ⊢;refine pure_ (i:=0) (N:=some 165) (v:=?_) (a':=?_) #[true,false,false,false,false,false,false,false,false,false,false,false,false,false] rfl rfl (any_of HT_.out zk) (fun _ _ _ h=>h) (Or.inl ⟨by rfl,?_⟩) ?_ ?_;rotate_left
        ·intro w'
         go_simp
         with_reducible rfl
        rotate_left
        ·simp only [Act.put,List.setIfInBounds_toArray,List.set_cons_zero,List.set_cons_succ,i64_w,i32_w];rfl
        refine pure_ (i:=1) (N:=some 166) (v:=?_) (a':=?_) #[true,true,false,false,false,false,false,false,false,false,false,false,false,false] rfl rfl (any_of HT_.out zk) (fun _ _ _ h=>h) (Or.inl ⟨by rfl,?_⟩) ?_ ?_;rotate_left
        ·intro w'
         go_simp
         with_reducible rfl
        rotate_left
        ·simp only [Act.put,List.setIfInBounds_toArray,List.set_cons_zero,List.set_cons_succ,i64_w,i32_w];rfl
        refine pure_ (i:=2) (N:=some 167) (v:=?_) (a':=?_) #[true,true,true,false,false,false,false,false,false,false,false,false,false,false] rfl rfl (any_of HT_.out zk) (fun _ _ _ h=>h) (Or.inl ⟨by rfl,?_⟩) ?_ ?_;rotate_left
        ·intro w'
         go_simp
         with_reducible rfl
        rotate_left
        ·simp only [Act.put,List.setIfInBounds_toArray,List.set_cons_zero,List.set_cons_succ,i64_w,i32_w];rfl
        refine pure_ (i:=4) (N:=some 169) (v:=?_) (a':=?_) #[true,true,true,false,true,false,false,false,false,false,false,false,false,false] rfl rfl (any_of HT_.out zk) (fun _ _ _ h=>h) (Or.inl ⟨by rfl,?_⟩) ?_ ?_;rotate_left
        ·intro w'
         go_simp
         with_reducible rfl
        rotate_left
        ·simp only [Act.put,List.setIfInBounds_toArray,List.set_cons_zero,List.set_cons_succ,i64_w,i32_w];rfl
        refine pure_ (i:=5) (N:=some 170) (v:=?_) (a':=?_) #[true,true,true,false,true,true,false,false,false,false,false,false,false,false] rfl rfl (any_of HT_.out zk) (fun _ _ _ h=>h) (Or.inl ⟨by rfl,?_⟩) ?_ ?_;rotate_left
        ·intro w'
         go_simp
         with_reducible rfl
        rotate_left
        ·simp only [Act.put,List.setIfInBounds_toArray,List.set_cons_zero,List.set_cons_succ,i64_w,i32_w];rfl
        refine pure_ (i:=6) (N:=some 171) (v:=?_) (a':=?_) #[true,true,true,false,true,true,true,false,false,false,false,false,false,false] rfl rfl (any_of HT_.out zk) (fun _ _ _ h=>h) (Or.inl ⟨by rfl,?_⟩) ?_ ?_;rotate_left
        ·intro w'
         go_simp
         with_reducible rfl
        rotate_left
        ·simp only [Act.put,List.setIfInBounds_toArray,List.set_cons_zero,List.set_cons_succ,i64_w,i32_w];rfl
        refine pure_ (i:=8) (N:=some 173) (v:=?_) (a':=?_) #[true,true,true,false,true,true,true,false,true,false,false,false,false,false] rfl rfl (any_of HT_.out zk) (fun _ _ _ h=>h) (Or.inl ⟨by rfl,?_⟩) ?_ ?_;rotate_left
        ·intro w'
         go_simp
         with_reducible rfl
        rotate_left
        ·simp only [Act.put,List.setIfInBounds_toArray,List.set_cons_zero,List.set_cons_succ,i64_w,i32_w];rfl
        refine pure_ (i:=9) (N:=some 174) (v:=?_) (a':=?_) #[true,true,true,false,true,true,true,false,true,true,false,false,false,false] rfl rfl (any_of HT_.out zk) (fun _ _ _ h=>h) (Or.inl ⟨by rfl,?_⟩) ?_ ?_;rotate_left
        ·intro w'
         go_simp
         with_reducible rfl
        rotate_left
        ·simp only [Act.put,List.setIfInBounds_toArray,List.set_cons_zero,List.set_cons_succ,i64_w,i32_w];rfl
        refine pure_ (i:=10) (N:=some 175) (v:=?_) (a':=?_) #[true,true,true,false,true,true,true,false,true,true,true,false,false,false] rfl rfl (any_of HT_.out zk) (fun _ _ _ h=>h) (Or.inl ⟨by rfl,?_⟩) ?_ ?_;rotate_left
        ·intro w'
         go_simp
         with_reducible rfl
        rotate_left
        ·simp only [Act.put,List.setIfInBounds_toArray,List.set_cons_zero,List.set_cons_succ,i64_w,i32_w];rfl
        refine take_ (i:=3) (N:=some 168) (v:=?_) (a':=?_) #[true,true,true,true,true,true,true,false,true,true,true,false,false,false] rfl rfl (take_ofW HT_.out HW_.out zk) (fun _ _ _ h=>h) (Or.inl ⟨by rfl,?_⟩) hHeld ?_ ?_;rotate_left
        ·rintro w' ⟨s0,s1,s2⟩
         go_simp
         with_reducible rfl
        rotate_left
        ·simp only [Act.put,List.setIfInBounds_toArray,List.set_cons_zero,List.set_cons_succ,i64_w,i32_w];rfl
        refine take_ (i:=7) (N:=some 172) (v:=?_) (a':=?_) #[true,true,true,true,true,true,true,true,true,true,true,false,false,false] rfl rfl (take_ofW HT_.out HW_.out zk) (fun _ _ _ h=>h) (Or.inl ⟨by rfl,?_⟩) hHeld ?_ ?_;rotate_left
        ·rintro w' ⟨s0,s1,s2⟩
         go_simp
         with_reducible rfl
        rotate_left
        ·simp only [Act.put,List.setIfInBounds_toArray,List.set_cons_zero,List.set_cons_succ,i64_w,i32_w];rfl
        refine take_ (i:=11) (N:=some 176) (v:=?_) (a':=?_) #[true,true,true,true,true,true,true,true,true,true,true,true,false,false] rfl rfl (take_ofW HT_.out HW_.out zk) (fun _ _ _ h=>h) (Or.inl ⟨by rfl,?_⟩) hHeld ?_ ?_;rotate_left
        ·rintro w' ⟨s0,s1,s2⟩
         go_simp
         with_reducible rfl
        rotate_left
        ·simp only [Act.put,List.setIfInBounds_toArray,List.set_cons_zero,List.set_cons_succ,i64_w,i32_w];rfl
        refine pure_ (i:=12) (N:=some 177) (v:=?_) (a':=?_) #[true,true,true,true,true,true,true,true,true,true,true,true,true,false] rfl rfl (any_of HT_.out zk) (fun _ _ _ h=>h) (Or.inl ⟨by rfl,?_⟩) ?_ ?_;rotate_left
        ·intro w'
         go_simp
         with_reducible rfl
        rotate_left
        ·simp only [Act.put,List.setIfInBounds_toArray,List.set_cons_zero,List.set_cons_succ,i64_w,i32_w];rfl
        refine pure_ (i:=13) (N:=some 178) (v:=?_) (a':=?_) #[true,true,true,true,true,true,true,true,true,true,true,true,true,true] rfl rfl (any_of HT_.out zk) (fun _ _ _ h=>h) (Or.inl ⟨by rfl,?_⟩) ?_ ?_;rotate_left
        ·intro w'
         go_simp
         with_reducible rfl
        rotate_left
        ·simp only [Act.put,List.setIfInBounds_toArray,List.set_cons_zero,List.set_cons_succ,i64_w,i32_w];rfl
        refine done_ (done_of HT_.out zk) ?_
        try go_wp2
        go_roundg k3
        case measure=>have:=HK1.out;have:=HJ55.out;have:=HK3.out;omega
        case rel=>exact ⟨(wrap64 (x162_3+1)),zE,H',⟨by have:=HK1.out;have:=HJ55.out;have:=HK3.out;omega⟩,⟨by (try simp only [hl499001_1]);(with_reducible repeat (first|apply Kd.N_alloc|apply Kd.N_drewN|apply Kd.N_drew));exact HO_16.out⟩,⟨by (try simp only [hl499001_1]);(with_reducible repeat (first|apply Kd.R_alloc|apply Kd.R_drewN|apply Kd.R_drew));exact HO_18.out⟩,⟨by (try simp only [hl499001_1]);(with_reducible repeat (first|apply Kd.R_alloc|apply Kd.R_drewN|apply Kd.R_drew));exact HO_20.out⟩,⟨by (try simp only [hl499001_1]);(with_reducible repeat (first|apply Kd.R_alloc|apply Kd.R_drewN|apply Kd.R_drew));exact HO_160.out⟩,⟨by (try simp only [hl499001_1]);(with_reducible repeat (first|apply Kd.V_alloc|apply Kd.V_drewN|apply Kd.V_drew));exact HO_493002.out⟩,⟨by (try simp only [hl499001_1]);(with_reducible repeat (first|apply Kd.V_alloc|apply Kd.V_drewN|apply Kd.V_drew));exact HO_499001.out⟩,⟨by (try simp only [hl499001_1]);(with_reducible repeat (first|apply Kd.V_alloc|apply Kd.V_drewN|apply Kd.V_drew));exact HO_499004.out⟩,⟨by (try simp only [hl499001_1]);(with_reducible repeat (first|apply Kd.R_alloc|apply Kd.R_drewN|apply Kd.R_drew));exact HO_518001.out⟩,⟨by (try simp only [hl499001_1]);(with_reducible repeat (first|refine blk_drewN ?_ _|refine blk_drew ?_|refine blk_alloc ?_ _));exact BK492.out⟩,⟨by (try simp only [hl499001_1]);(with_reducible repeat (first|refine blk_drewN ?_ _|refine blk_drew ?_|refine blk_alloc ?_ _));exact BK498.out⟩,⟨by (try simp only [hl499001_1]);(with_reducible repeat (first|refine blk_drewN ?_ _|refine blk_drew ?_|refine blk_alloc ?_ _));exact BK505.out⟩,⟨by (try simp only [hl499001_1]);(with_reducible repeat (first|refine blk_drewN ?_ _|refine blk_drew ?_|refine blk_alloc ?_ _));exact BK517.out⟩,⟨by (try simp only [hl499001_1]);(with_reducible repeat (first|refine blk_drewN ?_ _|refine blk_drew ?_|refine blk_alloc ?_ _));exact BK518.out⟩,⟨zJ HI481⟩,⟨zI HB HI481⟩⟩
       rw [if_neg c196] at H;have c196b0:=decide_eq_false c196;clear c196;replace H:=Option.bind_eq_some_iff.mp H;obtain ⟨⟨t549,t550,t551,t552⟩,A2050,H⟩:=H
       try dsimp only at H
       have A205:=zo A2050;clear A2050;replace H:=Option.bind_eq_some_iff.mp H;obtain ⟨⟨t554,t555,t558,t559,t560,t561⟩,A2060,H⟩:=H
       try dsimp only at H
       have A206:=zo A2060;clear A2060;have H':=zo H;clear H
       go_wp2_with (first|((with_reducible refine gate_callee (f:=13) rfl ?_);refine goesL_ (some 181) rfl rfl Try.func13 zk rfl #[.pointer (some ⟨g481,0,none⟩)] rfl zA ?_;(with_reducible refine (soundservicelaw23_limit.calls g481 t526 t549 t550 t551 t552 w _ ?side1 ?side2 A205.out).mono ?_);(case side1=>exact zJ HI481);(case side2=>exact zI HB HI481);rintro e w207 ⟨rfl,hi,hb,hk⟩;refine ⟨_,rfl,?_⟩;replace HO_16:=zo (Kd.N_mono (Kd.N_keep (Kd.N_mono (ok:=fun k_=>(some k_≠(v529 : Value).ownBlock∧(some k_≠(v533 : Value).ownBlock∧(some k_≠(.slice Ao195 t541.length co195 : Value).ownBlock∧(some k_≠(.slice Ao80 t510.length co80 : Value).ownBlock∧(k_≠gb492∧(k_≠gb498∧(k_≠gb505∧(k_≠gb517∧(k_≠gb518∧k_≠g481)))))))))) (zN HO_16) (fun k_ hk_=>(⟨hk_,hk_.2.2.2.2.2.2.2.2.2⟩ : _∧k_≠g481))) hk (fun _ h=>h.2)) (fun _ h=>h.1));replace HO_18:=zo (Kd.R_mono (Kd.R_keep (IsS71.apart (show IsS71 w _ g481 t526 from zJ HI481) (zR HO_18) (by decide)) hk (fun _ h=>h.2)) (fun _ h=>h.1));replace HO_20:=zo (Kd.R_mono (Kd.R_keep (IsS71.apart (show IsS71 w _ g481 t526 from zJ HI481) (zR HO_20) (by decide)) hk (fun _ h=>h.2)) (fun _ h=>h.1));replace HO_160:=zo (Kd.R_mono (Kd.R_keep (IsS71.apart (show IsS71 w _ g481 t526 from zJ HI481) (zR HO_160) (by decide)) hk (fun _ h=>h.2)) (fun _ h=>h.1));replace HO_493002:=zo (Kd.V_mono (Kd.V_keep (Kd.V_mono (ok:=fun k_=>(some k_≠(.slice Ao88 t519.length co88 : Value).ownBlock∧(some k_≠(v529 : Value).ownBlock∧(some k_≠(v533 : Value).ownBlock∧(some k_≠(.slice Ao195 t541.length co195 : Value).ownBlock∧(some k_≠(.slice Ao80 t510.length co80 : Value).ownBlock∧(k_≠gb492∧(k_≠gb498∧(k_≠gb505∧(k_≠gb517∧(k_≠gb518∧k_≠g481))))))))))) (zV HO_493002) (fun k_ hk_=>(⟨hk_,hk_.2.2.2.2.2.2.2.2.2.2⟩ : _∧k_≠g481))) hk (fun _ h=>h.2)) (fun _ h=>h.1));replace HO_499001:=zo (Kd.V_mono (Kd.V_keep (Kd.V_mono (ok:=fun k_=>(some k_≠(.slice Ao88 t519.length co88 : Value).ownBlock∧(some k_≠(v529 : Value).ownBlock∧(some k_≠(v533 : Value).ownBlock∧(some k_≠(.slice Ao195 t541.length co195 : Value).ownBlock∧(some k_≠(.slice Ao80 t510.length co80 : Value).ownBlock∧(k_≠gb492∧(k_≠gb498∧(k_≠gb505∧(k_≠gb517∧(k_≠gb518∧k_≠g481))))))))))) (zV HO_499001) (fun k_ hk_=>(⟨hk_,hk_.2.2.2.2.2.2.2.2.2.2⟩ : _∧k_≠g481))) hk (fun _ h=>h.2)) (fun _ h=>h.1));replace HO_499004:=zo (Kd.V_mono (Kd.V_keep (Kd.V_mono (ok:=fun k_=>(some k_≠(.slice Ao88 t519.length co88 : Value).ownBlock∧(some k_≠(v529 : Value).ownBlock∧(some k_≠(v533 : Value).ownBlock∧(some k_≠(.slice Ao195 t541.length co195 : Value).ownBlock∧(some k_≠(.slice Ao80 t510.length co80 : Value).ownBlock∧(k_≠gb492∧(k_≠gb498∧(k_≠gb505∧(k_≠gb517∧(k_≠gb518∧k_≠g481))))))))))) (zV HO_499004) (fun k_ hk_=>(⟨hk_,hk_.2.2.2.2.2.2.2.2.2.2⟩ : _∧k_≠g481))) hk (fun _ h=>h.2)) (fun _ h=>h.1));replace HO_518001:=zo (Kd.R_mono (Kd.R_keep (IsS71.apart (show IsS71 w _ g481 t526 from zJ HI481) (zR HO_518001) (by decide)) hk (fun _ h=>h.2)) (fun _ h=>h.1));replace BK492:=zo (KeepBut.blk hk (g':=gb492) (o:=.cells #[.int .i64 t486,.int .i64 t487,.slice Ao17 t488.length co17] 50 (0,0)) (zB BK492) NB492_481.out (by simp));replace BK498:=zo (KeepBut.blk hk (g':=gb498) (o:=.cells #[.int .i64 t493,.slice Ao24 x499001_1.length co24,.int .i64 t486,.int .i64 t487,.slice Ao17 t488.length co17,.int .i64 65536,.int .i64 65536,.int .i64 0,.int .i64 0] 54 (0,0)) (zB BK498) NB498_481.out (by simp));replace BK505:=zo (KeepBut.blk hk (g':=gb505) (o:=.cells #[.int .i64 t501,.int .i64 t502,.int .i64 t503] 24 (0,0)) (zB BK505) NB505_481.out (by simp));replace BK517:=zo (KeepBut.blk hk (g':=gb517) (o:=.cells #[.int .i64 t509,.slice Ao80 t510.length co80] 43 (0,0)) (zB BK517) NB517_481.out (by simp));replace BK518:=zo (KeepBut.blk hk (g':=gb518) (o:=.cells #[.int .i64 t513,.int .i64 t514,.int .i64 t515] 24 (0,0)) (zB BK518) NB518_481.out (by simp));replace HB:=zo hb;replace HI481:=zo hi;(try clear hb);(try clear hk);(try clear hi))|((with_reducible refine gate_dst (N:=25) rfl ?_);(try (refine gate_guard (by rfl) ?_;dsimp only));refine box_event ?hg (N:=25) ?hd (cs:=#[.int .i64 0,.int .i64 0,.int .i64 0]) (t:=24) ?hr ?_;(case hd=>rfl);(case hg=>rfl);(case hr=>first|(go_simp;done)|(go_simp;rfl));intro gb553 hg w208 hbox hb;replace HO_16:=zo (Kd.N_below (Kd.N_elderB (zN HO_16) gb553 (Nat.le_of_eq hg.symm)) hb);replace HO_18:=zo (Kd.R_below (zR HO_18) hb);replace HO_20:=zo (Kd.R_below (zR HO_20) hb);replace HO_160:=zo (Kd.R_below (zR HO_160) hb);replace HO_493002:=zo (Kd.V_below (Kd.V_elderB (zV HO_493002) gb553 (Nat.le_of_eq hg.symm)) hb);replace HO_499001:=zo (Kd.V_below (Kd.V_elderB (zV HO_499001) gb553 (Nat.le_of_eq hg.symm)) hb);replace HO_499004:=zo (Kd.V_below (Kd.V_elderB (zV HO_499004) gb553 (Nat.le_of_eq hg.symm)) hb);replace HO_518001:=zo (Kd.R_below (zR HO_518001) hb);have BK553:=zo hbox;have GW553:=zo ((by rw [hg];exact (below_size (zI HB HI481)) : w.heap.size≤gb553));have GE553:=zo ((by rw [hg];exact (below_size (zI HB HI481)) : w.heap.size≤gb553));replace HB:=zo (below_step (zI HB HI481) hb);have NB492_553:=zo (zL hg BK492);have NB553_492:=zo (zG hg BK492);replace BK492:=zo (blk_below (zB BK492) hb);have NB498_553:=zo (zL hg BK498);have NB553_498:=zo (zG hg BK498);replace BK498:=zo (blk_below (zB BK498) hb);have NB505_553:=zo (zL hg BK505);have NB553_505:=zo (zG hg BK505);replace BK505:=zo (blk_below (zB BK505) hb);have NB517_553:=zo (zL hg BK517);have NB553_517:=zo (zG hg BK517);replace BK517:=zo (blk_below (zB BK517) hb);have NB518_553:=zo (zL hg BK518);have NB553_518:=zo (zG hg BK518);replace BK518:=zo (blk_below (zB BK518) hb);have NB481_553:=zo ((by rw [hg];exact Nat.ne_of_lt (IsS71.lt (show IsS71 w _ g481 t552 from zJ HI481)) : g481≠gb553));have NB553_481:=zo ((by rw [hg];exact Nat.ne_of_gt (IsS71.lt (show IsS71 w _ g481 t552 from zJ HI481)) : gb553≠g481));replace HI481:=zo (IsS71.below (zJ HI481) hb);clear hb hbox hg;have hnb209:=NB553_492.out;have hnc209:=NB492_553.out;have hnb210:=NB553_498.out;have hnc210:=NB498_553.out;have hnb211:=NB553_505.out;have hnc211:=NB505_553.out;have hnb212:=NB553_517.out;have hnc212:=NB517_553.out;have hnb213:=NB553_518.out;have hnc213:=NB518_553.out;have hnb214:=NB553_481.out;have hnc214:=NB481_553.out;obtain ⟨hcz215_0,hfz215_0,hcz215_1,hfz215_1,hcz215_2,hfz215_2⟩:=zn3 BK553)|((with_reducible refine gate_callee (f:=16) rfl ?_);refine goesL_ (some 187) rfl rfl Try.func16 zk rfl #[.int .i64 (wrap64 (1+t482)),.int .i64 t484,.slice Ao88 t519.length co88,.agg #[.int .i64 t549,.int .i64 t550,.int .i64 t551]] rfl zA ?_;(with_reducible refine (mixture_Mix.calls k3 (wrap64 (1+t482)) t484 _ _ t519 t549 t550 t551 t554 t555 t558 t559 t560 t561 _ ?side1 ?side2 A206.out).mono ?_);(case side1=>refine (Kd.N_reads' (e:=54) (base:=w.heap.size) (ok:=fun k_=>((some k_≠(v529 : Value).ownBlock∧(some k_≠(v533 : Value).ownBlock∧(some k_≠(.slice Ao195 t541.length co195 : Value).ownBlock∧(some k_≠(.slice Ao80 t510.length co80 : Value).ownBlock∧(k_≠gb492∧(k_≠gb498∧(k_≠gb505∧(k_≠gb517∧(k_≠gb518∧k_≠g481)))))))))∧k_≠gb553)) (n:=t519.length) (c:=co88) ?_).2.2;exact (by (with_reducible repeat (first|apply Kd.N_alloc|apply Kd.N_drewN|apply Kd.N_drew));exact (Kd.N_mono (Kd.N_far (p:=⟨gb553,2,none⟩) (Kd.N_far (p:=⟨gb553,1,none⟩) (Kd.N_far (p:=⟨gb553,0,none⟩) (Kd.N_mono HO_16.out (fun k_ hk=>(⟨hk,hk.2⟩ : _∧k_≠gb553))) (fun _ hk=>hk.2) (.int .i64 t549)) (fun _ hk=>hk.2) (.int .i64 t550)) (fun _ hk=>hk.2) (.int .i64 t551)) (fun _ h_=>h_.1))));(case side2=>exact (Kd.N_reads' HO_16.out).2.1);rintro e w216 ⟨v556,rfl,ho0,hb⟩;refine ⟨_,rfl,?_⟩;replace HO_16:=zo (Kd.N_elder' (by (with_reducible repeat (first|apply Kd.N_alloc|apply Kd.N_drewN|apply Kd.N_drew));exact (Kd.N_mono (Kd.N_far (p:=⟨gb553,2,none⟩) (Kd.N_far (p:=⟨gb553,1,none⟩) (Kd.N_far (p:=⟨gb553,0,none⟩) (Kd.N_mono HO_16.out (fun k_ hk=>(⟨hk,hk.2⟩ : _∧k_≠gb553))) (fun _ hk=>hk.2) (.int .i64 t549)) (fun _ hk=>hk.2) (.int .i64 t550)) (fun _ hk=>hk.2) (.int .i64 t551)) (fun _ h_=>h_.1))) (Kd.R_base ho0) hb);replace HO_18:=zo (Kd.R_below (by (with_reducible repeat (first|apply Kd.R_alloc|apply Kd.R_drewN|apply Kd.R_drew));exact (Kd.R_mono (Kd.R_far (p:=⟨gb553,2,none⟩) (Kd.R_far (p:=⟨gb553,1,none⟩) (Kd.R_far (p:=⟨gb553,0,none⟩) (Kd.R_types HO_18.out BK553.out (by decide)) (fun _ hk=>hk.2) (.int .i64 t549)) (fun _ hk=>hk.2) (.int .i64 t550)) (fun _ hk=>hk.2) (.int .i64 t551)) (fun _ h_=>h_.1))) hb);replace HO_20:=zo (Kd.R_below (by (with_reducible repeat (first|apply Kd.R_alloc|apply Kd.R_drewN|apply Kd.R_drew));exact (Kd.R_mono (Kd.R_far (p:=⟨gb553,2,none⟩) (Kd.R_far (p:=⟨gb553,1,none⟩) (Kd.R_far (p:=⟨gb553,0,none⟩) (Kd.R_types HO_20.out BK553.out (by decide)) (fun _ hk=>hk.2) (.int .i64 t549)) (fun _ hk=>hk.2) (.int .i64 t550)) (fun _ hk=>hk.2) (.int .i64 t551)) (fun _ h_=>h_.1))) hb);replace HO_160:=zo (Kd.R_below (by (with_reducible repeat (first|apply Kd.R_alloc|apply Kd.R_drewN|apply Kd.R_drew));exact (Kd.R_mono (Kd.R_far (p:=⟨gb553,2,none⟩) (Kd.R_far (p:=⟨gb553,1,none⟩) (Kd.R_far (p:=⟨gb553,0,none⟩) (Kd.R_types HO_160.out BK553.out (by decide)) (fun _ hk=>hk.2) (.int .i64 t549)) (fun _ hk=>hk.2) (.int .i64 t550)) (fun _ hk=>hk.2) (.int .i64 t551)) (fun _ h_=>h_.1))) hb);replace HO_493002:=zo (Kd.V_elder' (by (with_reducible repeat (first|apply Kd.V_alloc|apply Kd.V_drewN|apply Kd.V_drew));exact (Kd.V_mono (Kd.V_far (p:=⟨gb553,2,none⟩) (Kd.V_far (p:=⟨gb553,1,none⟩) (Kd.V_far (p:=⟨gb553,0,none⟩) (Kd.V_mono HO_493002.out (fun k_ hk=>(⟨hk,hk.2⟩ : _∧k_≠gb553))) (fun _ hk=>hk.2) (.int .i64 t549)) (fun _ hk=>hk.2) (.int .i64 t550)) (fun _ hk=>hk.2) (.int .i64 t551)) (fun _ h_=>h_.1))) (Kd.R_base ho0) hb);replace HO_499001:=zo (Kd.V_elder' (by (with_reducible repeat (first|apply Kd.V_alloc|apply Kd.V_drewN|apply Kd.V_drew));exact (Kd.V_mono (Kd.V_far (p:=⟨gb553,2,none⟩) (Kd.V_far (p:=⟨gb553,1,none⟩) (Kd.V_far (p:=⟨gb553,0,none⟩) (Kd.V_mono HO_499001.out (fun k_ hk=>(⟨hk,hk.2⟩ : _∧k_≠gb553))) (fun _ hk=>hk.2) (.int .i64 t549)) (fun _ hk=>hk.2) (.int .i64 t550)) (fun _ hk=>hk.2) (.int .i64 t551)) (fun _ h_=>h_.1))) (Kd.R_base ho0) hb);replace HO_499004:=zo (Kd.V_elder' (by (with_reducible repeat (first|apply Kd.V_alloc|apply Kd.V_drewN|apply Kd.V_drew));exact (Kd.V_mono (Kd.V_far (p:=⟨gb553,2,none⟩) (Kd.V_far (p:=⟨gb553,1,none⟩) (Kd.V_far (p:=⟨gb553,0,none⟩) (Kd.V_mono HO_499004.out (fun k_ hk=>(⟨hk,hk.2⟩ : _∧k_≠gb553))) (fun _ hk=>hk.2) (.int .i64 t549)) (fun _ hk=>hk.2) (.int .i64 t550)) (fun _ hk=>hk.2) (.int .i64 t551)) (fun _ h_=>h_.1))) (Kd.R_base ho0) hb);have HO557:=zo (Kd.R_lower (Kd.R_new' ho0 (Kd.R_lt (by (with_reducible repeat (first|apply Kd.R_alloc|apply Kd.R_drewN|apply Kd.R_drew));exact (Kd.R_mono (Kd.R_far (p:=⟨gb553,2,none⟩) (Kd.R_far (p:=⟨gb553,1,none⟩) (Kd.R_far (p:=⟨gb553,0,none⟩) (Kd.R_types HO_518001.out BK553.out (by decide)) (fun _ hk=>hk.2) (.int .i64 t549)) (fun _ hk=>hk.2) (.int .i64 t550)) (fun _ hk=>hk.2) (.int .i64 t551)) (fun _ h_=>h_.1))))) (below_size (zI HB HI481)));replace HO_518001:=zo (Kd.R_elder' (by (with_reducible repeat (first|apply Kd.R_alloc|apply Kd.R_drewN|apply Kd.R_drew));exact (Kd.R_mono (Kd.R_far (p:=⟨gb553,2,none⟩) (Kd.R_far (p:=⟨gb553,1,none⟩) (Kd.R_far (p:=⟨gb553,0,none⟩) (Kd.R_types HO_518001.out BK553.out (by decide)) (fun _ hk=>hk.2) (.int .i64 t549)) (fun _ hk=>hk.2) (.int .i64 t550)) (fun _ hk=>hk.2) (.int .i64 t551)) (fun _ h_=>h_.1))) (Kd.R_base ho0) hb);replace BK492:=zo (blk_below (zB BK492) hb);replace BK498:=zo (blk_below (zB BK498) hb);replace BK505:=zo (blk_below (zB BK505) hb);replace BK517:=zo (blk_below (zB BK517) hb);replace BK518:=zo (blk_below (zB BK518) hb);replace BK553:=zo (blk_below (g:=gb553) (o:=.cells #[.int .i64 t549,.int .i64 t550,.int .i64 t551] 24 (0,0)) (zB BK553) hb);replace HB:=zo (below_step (zI HB HI481) hb);replace HI481:=zo (IsS71.below (show IsS71 w (((w208.setCell ⟨gb553,0,none⟩ (.int .i64 t549)).setCell ⟨gb553,1,none⟩ (.int .i64 t550)).setCell ⟨gb553,2,none⟩ (.int .i64 t551)) g481 t552 from zJ HI481) hb);(try clear hb);(try clear ho0))|((with_reducible refine gate_dst (N:=26) rfl ?_);(try (refine gate_guard (by rfl) ?_;dsimp only));refine box_event ?hg (N:=26) ?hd (cs:=#[.int .i64 0,.slice none 0 0]) (t:=43) ?hr ?_;(case hd=>rfl);(case hg=>rfl);(case hr=>first|(go_simp;done)|(go_simp;rfl));intro gb562 hg w217 hbox hb;replace HO_16:=zo (Kd.N_below (Kd.N_elderB (zN HO_16) gb562 (Nat.le_of_eq hg.symm)) hb);replace HO_18:=zo (Kd.R_below (zR HO_18) hb);replace HO_20:=zo (Kd.R_below (zR HO_20) hb);replace HO_160:=zo (Kd.R_below (zR HO_160) hb);replace HO_493002:=zo (Kd.V_below (Kd.V_elderB (zV HO_493002) gb562 (Nat.le_of_eq hg.symm)) hb);replace HO_499001:=zo (Kd.V_below (Kd.V_elderB (zV HO_499001) gb562 (Nat.le_of_eq hg.symm)) hb);replace HO_499004:=zo (Kd.V_below (Kd.V_elderB (zV HO_499004) gb562 (Nat.le_of_eq hg.symm)) hb);replace HO_518001:=zo (Kd.R_below (zR HO_518001) hb);replace HO557:=zo (Kd.R_below (zR HO557) hb);have BK562:=zo hbox;have GW562:=zo ((by rw [hg];exact (below_size (zI HB HI481)) : w.heap.size≤gb562));have GE562:=zo ((by rw [hg];exact (below_size (zI HB HI481)) : w.heap.size≤gb562));replace HB:=zo (below_step (zI HB HI481) hb);have NB492_562:=zo (zL hg BK492);have NB562_492:=zo (zG hg BK492);replace BK492:=zo (blk_below (zB BK492) hb);have NB498_562:=zo (zL hg BK498);have NB562_498:=zo (zG hg BK498);replace BK498:=zo (blk_below (zB BK498) hb);have NB505_562:=zo (zL hg BK505);have NB562_505:=zo (zG hg BK505);replace BK505:=zo (blk_below (zB BK505) hb);have NB517_562:=zo (zL hg BK517);have NB562_517:=zo (zG hg BK517);replace BK517:=zo (blk_below (zB BK517) hb);have NB518_562:=zo (zL hg BK518);have NB562_518:=zo (zG hg BK518);replace BK518:=zo (blk_below (zB BK518) hb);have NB553_562:=zo (zL hg BK553);have NB562_553:=zo (zG hg BK553);replace BK553:=zo (blk_below (zB BK553) hb);have NB481_562:=zo ((by rw [hg];exact Nat.ne_of_lt (IsS71.lt (show IsS71 w _ g481 t552 from zJ HI481)) : g481≠gb562));have NB562_481:=zo ((by rw [hg];exact Nat.ne_of_gt (IsS71.lt (show IsS71 w _ g481 t552 from zJ HI481)) : gb562≠g481));replace HI481:=zo (IsS71.below (zJ HI481) hb);clear hb hbox hg)|((with_reducible refine gate_dst (N:=27) rfl ?_);(try (refine gate_guard (by rfl) ?_;dsimp only));refine box_event ?hg (N:=27) ?hd (cs:=#[.int .i64 0,.int .i64 0,.int .i64 0]) (t:=24) ?hr ?_;(case hd=>rfl);(case hg=>rfl);(case hr=>first|(go_simp;done)|(go_simp;rfl));intro gb563 hg w218 hbox hb;replace HO_16:=zo (Kd.N_below (Kd.N_elderB (zN HO_16) gb563 (Nat.le_of_eq hg.symm)) hb);replace HO_18:=zo (Kd.R_below (zR HO_18) hb);replace HO_20:=zo (Kd.R_below (zR HO_20) hb);replace HO_160:=zo (Kd.R_below (zR HO_160) hb);replace HO_493002:=zo (Kd.V_below (Kd.V_elderB (zV HO_493002) gb563 (Nat.le_of_eq hg.symm)) hb);replace HO_499001:=zo (Kd.V_below (Kd.V_elderB (zV HO_499001) gb563 (Nat.le_of_eq hg.symm)) hb);replace HO_499004:=zo (Kd.V_below (Kd.V_elderB (zV HO_499004) gb563 (Nat.le_of_eq hg.symm)) hb);replace HO_518001:=zo (Kd.R_below (zR HO_518001) hb);replace HO557:=zo (Kd.R_below (zR HO557) hb);have BK563:=zo hbox;have GW563:=zo ((by rw [hg];exact (below_size (zI HB HI481)) : w.heap.size≤gb563));have GE563:=zo ((by rw [hg];exact (below_size (zI HB HI481)) : w.heap.size≤gb563));replace HB:=zo (below_step (zI HB HI481) hb);have NB492_563:=zo (zL hg BK492);have NB563_492:=zo (zG hg BK492);replace BK492:=zo (blk_below (zB BK492) hb);have NB498_563:=zo (zL hg BK498);have NB563_498:=zo (zG hg BK498);replace BK498:=zo (blk_below (zB BK498) hb);have NB505_563:=zo (zL hg BK505);have NB563_505:=zo (zG hg BK505);replace BK505:=zo (blk_below (zB BK505) hb);have NB517_563:=zo (zL hg BK517);have NB563_517:=zo (zG hg BK517);replace BK517:=zo (blk_below (zB BK517) hb);have NB518_563:=zo (zL hg BK518);have NB563_518:=zo (zG hg BK518);replace BK518:=zo (blk_below (zB BK518) hb);have NB553_563:=zo (zL hg BK553);have NB563_553:=zo (zG hg BK553);replace BK553:=zo (blk_below (zB BK553) hb);have NB562_563:=zo (zL hg BK562);have NB563_562:=zo (zG hg BK562);replace BK562:=zo (blk_below (zB BK562) hb);have NB481_563:=zo ((by rw [hg];exact Nat.ne_of_lt (IsS71.lt (show IsS71 w _ g481 t552 from zJ HI481)) : g481≠gb563));have NB563_481:=zo ((by rw [hg];exact Nat.ne_of_gt (IsS71.lt (show IsS71 w _ g481 t552 from zJ HI481)) : gb563≠g481));replace HI481:=zo (IsS71.below (zJ HI481) hb);clear hb hbox hg;have hnb219:=NB562_492.out;have hnc219:=NB492_562.out;have hnb220:=NB562_498.out;have hnc220:=NB498_562.out;have hnb221:=NB562_505.out;have hnc221:=NB505_562.out;have hnb222:=NB562_517.out;have hnc222:=NB517_562.out;have hnb223:=NB562_518.out;have hnc223:=NB518_562.out;have hnb224:=NB562_553.out;have hnc224:=NB553_562.out;have hnb225:=NB562_563.out;have hnc225:=NB563_562.out;have hnb226:=NB562_481.out;have hnc226:=NB481_562.out;obtain ⟨hcz227_0,hfz227_0,hcz227_1,hfz227_1⟩:=zn2 BK562;obtain ⟨Ao228,co228,eo228⟩:=Kd.R_slice HO557.out;subst eo228;have hnb229:=NB563_492.out;have hnc229:=NB492_563.out;have hnb230:=NB563_498.out;have hnc230:=NB498_563.out;have hnb231:=NB563_505.out;have hnc231:=NB505_563.out;have hnb232:=NB563_517.out;have hnc232:=NB517_563.out;have hnb233:=NB563_518.out;have hnc233:=NB518_563.out;have hnb234:=NB563_553.out;have hnc234:=NB553_563.out;have hnb235:=NB563_481.out;have hnc235:=NB481_563.out;obtain ⟨hcz236_0,hfz236_0,hcz236_1,hfz236_1,hcz236_2,hfz236_2⟩:=zn3 BK563))
       go_loopg [194] k3 (fun kq v194 w'=>∃ (x194_4 : Int),v194 = .int .i64 x194_4∧Aside0 (soundservicelaw23_MixtureAlone.l2 kq (wrap64 (1+t482)) t484 t561 (t555.length : Int) x194_4 t549 t550 t551 t554 t555=some r)∧Aside0 (kq≤k3)∧Aside0 (Kd.V (Kd.int .i64) 3 w' w.heap.size (fun k_=>some k_≠((.slice Ao80 t510.length co80) : Value).ownBlock∧some k_≠((.slice Ao228 t555.length co228) : Value).ownBlock∧k_≠gb492∧k_≠gb498∧k_≠gb505∧k_≠gb517∧k_≠gb518∧k_≠gb553∧k_≠gb562∧k_≠gb563) (.slice Ao17 t488.length co17) t488)∧Aside0 (Kd.V (Kd.int .i32) 21 w' w.heap.size (fun k_=>some k_≠((.slice Ao80 t510.length co80) : Value).ownBlock∧some k_≠((.slice Ao228 t555.length co228) : Value).ownBlock∧k_≠gb492∧k_≠gb498∧k_≠gb505∧k_≠gb517∧k_≠gb518∧k_≠gb553∧k_≠gb562∧k_≠gb563) (.slice Ao24 x499001_1.length co24) x499001_1)∧Aside0 (Kd.V (Kd.int .i64) 3 w' w.heap.size (fun k_=>some k_≠((.slice Ao80 t510.length co80) : Value).ownBlock∧some k_≠((.slice Ao228 t555.length co228) : Value).ownBlock∧k_≠gb492∧k_≠gb498∧k_≠gb505∧k_≠gb517∧k_≠gb518∧k_≠gb553∧k_≠gb562∧k_≠gb563) (.slice Ao17 t488.length co17) t488)∧Aside0 (Kd.R (Kd.int .i32) 21 w' w.heap.size (fun k_=>some k_≠((.slice Ao228 t555.length co228) : Value).ownBlock) (.slice Ao80 t510.length co80) t510)∧Aside0 (Kd.R (Kd.int .i32) 21 w' w.heap.size (fun k_=>some k_≠((.slice Ao80 t510.length co80) : Value).ownBlock) (.slice Ao228 t555.length co228) t555)∧Aside0 (w'.heap[gb492]?=some (.cells #[.int .i64 t486,.int .i64 t487,(.slice Ao17 t488.length co17)] 50 (0,0)))∧Aside0 (w'.heap[gb498]?=some (.cells #[.int .i64 t493,(.slice Ao24 x499001_1.length co24),.int .i64 t486,.int .i64 t487,(.slice Ao17 t488.length co17),.int .i64 65536,.int .i64 65536,.int .i64 0,.int .i64 0] 54 (0,0)))∧Aside0 (w'.heap[gb505]?=some (.cells #[.int .i64 t501,.int .i64 t502,.int .i64 t503] 24 (0,0)))∧Aside0 (w'.heap[gb517]?=some (.cells #[.int .i64 t509,(.slice Ao80 t510.length co80)] 43 (0,0)))∧Aside0 (w'.heap[gb518]?=some (.cells #[.int .i64 t513,.int .i64 t514,.int .i64 t515] 24 (0,0)))∧Aside0 (w'.heap[gb553]?=some (.cells #[.int .i64 t549,.int .i64 t550,.int .i64 t551] 24 (0,0)))∧Aside0 (w'.heap[gb562]?=some (.cells #[.int .i64 t554,(.slice Ao228 t555.length co228)] 43 (0,0)))∧Aside0 (w'.heap[gb563]?=some (.cells #[.int .i64 t558,.int .i64 t559,.int .i64 t560] 24 (0,0)))∧Aside0 (Below w.heap.size w w'))
       case atStart=>exact ⟨(0),zE,H',⟨Nat.le_refl _⟩,⟨by (try simp only [hl499001_1]);(with_reducible repeat (first|apply Kd.V_alloc|apply Kd.V_drewN|apply Kd.V_drew));exact Kd.V_mono (Kd.V_far (p:=⟨gb563,2,none⟩) (Kd.V_far (p:=⟨gb563,1,none⟩) (Kd.V_far (p:=⟨gb563,0,none⟩) (Kd.V_far (p:=⟨gb562,1,none⟩) (Kd.V_far (p:=⟨gb562,0,none⟩) (Kd.V_mono (Kd.V_mono HO_493002.out (fun k_ hk=>(⟨hk,hk.1.2⟩ : _∧k_≠gb562))) (fun k_ hk=>(⟨hk,hk.1.2⟩ : _∧k_≠gb563))) (fun _ hk=>hk.1.2) (.int .i64 t554)) (fun _ hk=>hk.1.2) (.slice Ao228 t555.length co228)) (fun _ hk=>hk.2) (.int .i64 t558)) (fun _ hk=>hk.2) (.int .i64 t559)) (fun _ hk=>hk.2) (.int .i64 t560)) (fun _ hk=>⟨hk.1.1.1.1.1.1.2.2.2.2.1,⟨hk.1.1.1.1.2,⟨hk.1.1.1.1.1.1.2.2.2.2.2.1,⟨hk.1.1.1.1.1.1.2.2.2.2.2.2.1,⟨hk.1.1.1.1.1.1.2.2.2.2.2.2.2.1,⟨hk.1.1.1.1.1.1.2.2.2.2.2.2.2.2.1,⟨hk.1.1.1.1.1.1.2.2.2.2.2.2.2.2.2.1,⟨hk.1.1.1.1.1.2,⟨hk.1.1.1.2,hk.1.1.2⟩⟩⟩⟩⟩⟩⟩⟩⟩)⟩,⟨by (try simp only [hl499001_1]);(with_reducible repeat (first|apply Kd.V_alloc|apply Kd.V_drewN|apply Kd.V_drew));exact Kd.V_mono (Kd.V_far (p:=⟨gb563,2,none⟩) (Kd.V_far (p:=⟨gb563,1,none⟩) (Kd.V_far (p:=⟨gb563,0,none⟩) (Kd.V_far (p:=⟨gb562,1,none⟩) (Kd.V_far (p:=⟨gb562,0,none⟩) (Kd.V_mono (Kd.V_mono HO_499001.out (fun k_ hk=>(⟨hk,hk.1.2⟩ : _∧k_≠gb562))) (fun k_ hk=>(⟨hk,hk.1.2⟩ : _∧k_≠gb563))) (fun _ hk=>hk.1.2) (.int .i64 t554)) (fun _ hk=>hk.1.2) (.slice Ao228 t555.length co228)) (fun _ hk=>hk.2) (.int .i64 t558)) (fun _ hk=>hk.2) (.int .i64 t559)) (fun _ hk=>hk.2) (.int .i64 t560)) (fun _ hk=>⟨hk.1.1.1.1.1.1.2.2.2.2.1,⟨hk.1.1.1.1.2,⟨hk.1.1.1.1.1.1.2.2.2.2.2.1,⟨hk.1.1.1.1.1.1.2.2.2.2.2.2.1,⟨hk.1.1.1.1.1.1.2.2.2.2.2.2.2.1,⟨hk.1.1.1.1.1.1.2.2.2.2.2.2.2.2.1,⟨hk.1.1.1.1.1.1.2.2.2.2.2.2.2.2.2.1,⟨hk.1.1.1.1.1.2,⟨hk.1.1.1.2,hk.1.1.2⟩⟩⟩⟩⟩⟩⟩⟩⟩)⟩,⟨by (try simp only [hl499001_1]);(with_reducible repeat (first|apply Kd.V_alloc|apply Kd.V_drewN|apply Kd.V_drew));exact Kd.V_mono (Kd.V_far (p:=⟨gb563,2,none⟩) (Kd.V_far (p:=⟨gb563,1,none⟩) (Kd.V_far (p:=⟨gb563,0,none⟩) (Kd.V_far (p:=⟨gb562,1,none⟩) (Kd.V_far (p:=⟨gb562,0,none⟩) (Kd.V_mono (Kd.V_mono HO_499004.out (fun k_ hk=>(⟨hk,hk.1.2⟩ : _∧k_≠gb562))) (fun k_ hk=>(⟨hk,hk.1.2⟩ : _∧k_≠gb563))) (fun _ hk=>hk.1.2) (.int .i64 t554)) (fun _ hk=>hk.1.2) (.slice Ao228 t555.length co228)) (fun _ hk=>hk.2) (.int .i64 t558)) (fun _ hk=>hk.2) (.int .i64 t559)) (fun _ hk=>hk.2) (.int .i64 t560)) (fun _ hk=>⟨hk.1.1.1.1.1.1.2.2.2.2.1,⟨hk.1.1.1.1.2,⟨hk.1.1.1.1.1.1.2.2.2.2.2.1,⟨hk.1.1.1.1.1.1.2.2.2.2.2.2.1,⟨hk.1.1.1.1.1.1.2.2.2.2.2.2.2.1,⟨hk.1.1.1.1.1.1.2.2.2.2.2.2.2.2.1,⟨hk.1.1.1.1.1.1.2.2.2.2.2.2.2.2.2.1,⟨hk.1.1.1.1.1.2,⟨hk.1.1.1.2,hk.1.1.2⟩⟩⟩⟩⟩⟩⟩⟩⟩)⟩,⟨by (try simp only [hl499001_1]);(with_reducible repeat (first|apply Kd.R_alloc|apply Kd.R_drewN|apply Kd.R_drew));exact Kd.R_mono (Kd.R_far (p:=⟨gb563,2,none⟩) (Kd.R_far (p:=⟨gb563,1,none⟩) (Kd.R_far (p:=⟨gb563,0,none⟩) (Kd.R_far (p:=⟨gb562,1,none⟩) (Kd.R_far (p:=⟨gb562,0,none⟩) (Kd.R_types (Kd.R_types HO_518001.out BK562.out (by decide)) BK563.out (by decide)) (fun _ hk=>hk.1.2) (.int .i64 t554)) (fun _ hk=>hk.1.2) (.slice Ao228 t555.length co228)) (fun _ hk=>hk.2) (.int .i64 t558)) (fun _ hk=>hk.2) (.int .i64 t559)) (fun _ hk=>hk.2) (.int .i64 t560)) (fun _ hk=>hk.1.1.2)⟩,⟨by (try simp only [hl499001_1]);(with_reducible repeat (first|apply Kd.R_alloc|apply Kd.R_drewN|apply Kd.R_drew));exact Kd.R_mono (Kd.R_far (p:=⟨gb563,2,none⟩) (Kd.R_far (p:=⟨gb563,1,none⟩) (Kd.R_far (p:=⟨gb563,0,none⟩) (Kd.R_far (p:=⟨gb562,1,none⟩) (Kd.R_far (p:=⟨gb562,0,none⟩) (Kd.R_types (Kd.R_types HO557.out BK562.out (by decide)) BK563.out (by decide)) (fun _ hk=>hk.1.2) (.int .i64 t554)) (fun _ hk=>hk.1.2) (.slice Ao228 t555.length co228)) (fun _ hk=>hk.2) (.int .i64 t558)) (fun _ hk=>hk.2) (.int .i64 t559)) (fun _ hk=>hk.2) (.int .i64 t560)) (fun _ hk=>hk.1.1.2)⟩,⟨by (try simp only [hl499001_1]);(with_reducible repeat (first|refine blk_drewN ?_ _|refine blk_drew ?_|refine blk_alloc ?_ _));refine blk_far ?_ NB492_563.out _;(with_reducible repeat (first|refine blk_drewN ?_ _|refine blk_drew ?_|refine blk_alloc ?_ _));refine blk_far ?_ NB492_563.out _;(with_reducible repeat (first|refine blk_drewN ?_ _|refine blk_drew ?_|refine blk_alloc ?_ _));refine blk_far ?_ NB492_563.out _;(with_reducible repeat (first|refine blk_drewN ?_ _|refine blk_drew ?_|refine blk_alloc ?_ _));refine blk_far ?_ NB492_562.out _;(with_reducible repeat (first|refine blk_drewN ?_ _|refine blk_drew ?_|refine blk_alloc ?_ _));refine blk_far ?_ NB492_562.out _;(with_reducible repeat (first|refine blk_drewN ?_ _|refine blk_drew ?_|refine blk_alloc ?_ _));exact BK492.out⟩,⟨by (try simp only [hl499001_1]);(with_reducible repeat (first|refine blk_drewN ?_ _|refine blk_drew ?_|refine blk_alloc ?_ _));refine blk_far ?_ NB498_563.out _;(with_reducible repeat (first|refine blk_drewN ?_ _|refine blk_drew ?_|refine blk_alloc ?_ _));refine blk_far ?_ NB498_563.out _;(with_reducible repeat (first|refine blk_drewN ?_ _|refine blk_drew ?_|refine blk_alloc ?_ _));refine blk_far ?_ NB498_563.out _;(with_reducible repeat (first|refine blk_drewN ?_ _|refine blk_drew ?_|refine blk_alloc ?_ _));refine blk_far ?_ NB498_562.out _;(with_reducible repeat (first|refine blk_drewN ?_ _|refine blk_drew ?_|refine blk_alloc ?_ _));refine blk_far ?_ NB498_562.out _;(with_reducible repeat (first|refine blk_drewN ?_ _|refine blk_drew ?_|refine blk_alloc ?_ _));exact BK498.out⟩,⟨by (try simp only [hl499001_1]);(with_reducible repeat (first|refine blk_drewN ?_ _|refine blk_drew ?_|refine blk_alloc ?_ _));refine blk_far ?_ NB505_563.out _;(with_reducible repeat (first|refine blk_drewN ?_ _|refine blk_drew ?_|refine blk_alloc ?_ _));refine blk_far ?_ NB505_563.out _;(with_reducible repeat (first|refine blk_drewN ?_ _|refine blk_drew ?_|refine blk_alloc ?_ _));refine blk_far ?_ NB505_563.out _;(with_reducible repeat (first|refine blk_drewN ?_ _|refine blk_drew ?_|refine blk_alloc ?_ _));refine blk_far ?_ NB505_562.out _;(with_reducible repeat (first|refine blk_drewN ?_ _|refine blk_drew ?_|refine blk_alloc ?_ _));refine blk_far ?_ NB505_562.out _;(with_reducible repeat (first|refine blk_drewN ?_ _|refine blk_drew ?_|refine blk_alloc ?_ _));exact BK505.out⟩,⟨by (try simp only [hl499001_1]);(with_reducible repeat (first|refine blk_drewN ?_ _|refine blk_drew ?_|refine blk_alloc ?_ _));refine blk_far ?_ NB517_563.out _;(with_reducible repeat (first|refine blk_drewN ?_ _|refine blk_drew ?_|refine blk_alloc ?_ _));refine blk_far ?_ NB517_563.out _;(with_reducible repeat (first|refine blk_drewN ?_ _|refine blk_drew ?_|refine blk_alloc ?_ _));refine blk_far ?_ NB517_563.out _;(with_reducible repeat (first|refine blk_drewN ?_ _|refine blk_drew ?_|refine blk_alloc ?_ _));refine blk_far ?_ NB517_562.out _;(with_reducible repeat (first|refine blk_drewN ?_ _|refine blk_drew ?_|refine blk_alloc ?_ _));refine blk_far ?_ NB517_562.out _;(with_reducible repeat (first|refine blk_drewN ?_ _|refine blk_drew ?_|refine blk_alloc ?_ _));exact BK517.out⟩,⟨by (try simp only [hl499001_1]);(with_reducible repeat (first|refine blk_drewN ?_ _|refine blk_drew ?_|refine blk_alloc ?_ _));refine blk_far ?_ NB518_563.out _;(with_reducible repeat (first|refine blk_drewN ?_ _|refine blk_drew ?_|refine blk_alloc ?_ _));refine blk_far ?_ NB518_563.out _;(with_reducible repeat (first|refine blk_drewN ?_ _|refine blk_drew ?_|refine blk_alloc ?_ _));refine blk_far ?_ NB518_563.out _;(with_reducible repeat (first|refine blk_drewN ?_ _|refine blk_drew ?_|refine blk_alloc ?_ _));refine blk_far ?_ NB518_562.out _;(with_reducible repeat (first|refine blk_drewN ?_ _|refine blk_drew ?_|refine blk_alloc ?_ _));refine blk_far ?_ NB518_562.out _;(with_reducible repeat (first|refine blk_drewN ?_ _|refine blk_drew ?_|refine blk_alloc ?_ _));exact BK518.out⟩,⟨by (try simp only [hl499001_1]);(with_reducible repeat (first|refine blk_drewN ?_ _|refine blk_drew ?_|refine blk_alloc ?_ _));refine blk_far ?_ NB553_563.out _;(with_reducible repeat (first|refine blk_drewN ?_ _|refine blk_drew ?_|refine blk_alloc ?_ _));refine blk_far ?_ NB553_563.out _;(with_reducible repeat (first|refine blk_drewN ?_ _|refine blk_drew ?_|refine blk_alloc ?_ _));refine blk_far ?_ NB553_563.out _;(with_reducible repeat (first|refine blk_drewN ?_ _|refine blk_drew ?_|refine blk_alloc ?_ _));refine blk_far ?_ NB553_562.out _;(with_reducible repeat (first|refine blk_drewN ?_ _|refine blk_drew ?_|refine blk_alloc ?_ _));refine blk_far ?_ NB553_562.out _;(with_reducible repeat (first|refine blk_drewN ?_ _|refine blk_drew ?_|refine blk_alloc ?_ _));exact BK553.out⟩,⟨by (try simp only [hl499001_1]);(with_reducible repeat (first|refine blk_drewN ?_ _|refine blk_drew ?_|refine blk_alloc ?_ _));refine blk_far ?_ NB562_563.out _;(with_reducible repeat (first|refine blk_drewN ?_ _|refine blk_drew ?_|refine blk_alloc ?_ _));refine blk_far ?_ NB562_563.out _;(with_reducible repeat (first|refine blk_drewN ?_ _|refine blk_drew ?_|refine blk_alloc ?_ _));refine blk_far ?_ NB562_563.out _;(with_reducible repeat (first|refine blk_drewN ?_ _|refine blk_drew ?_|refine blk_alloc ?_ _));refine blk_put (cs:=#[.int .i64 t554,.slice none 0 0]) ?_ 1 _ rfl;(with_reducible repeat (first|refine blk_drewN ?_ _|refine blk_drew ?_|refine blk_alloc ?_ _));refine blk_put (cs:=#[.int .i64 0,.slice none 0 0]) ?_ 0 _ rfl;(with_reducible repeat (first|refine blk_drewN ?_ _|refine blk_drew ?_|refine blk_alloc ?_ _));exact BK562.out⟩,⟨by (try simp only [hl499001_1]);(with_reducible repeat (first|refine blk_drewN ?_ _|refine blk_drew ?_|refine blk_alloc ?_ _));refine blk_put (cs:=#[.int .i64 t558,.int .i64 t559,.int .i64 0]) ?_ 2 _ rfl;(with_reducible repeat (first|refine blk_drewN ?_ _|refine blk_drew ?_|refine blk_alloc ?_ _));refine blk_put (cs:=#[.int .i64 t558,.int .i64 0,.int .i64 0]) ?_ 1 _ rfl;(with_reducible repeat (first|refine blk_drewN ?_ _|refine blk_drew ?_|refine blk_alloc ?_ _));refine blk_put (cs:=#[.int .i64 0,.int .i64 0,.int .i64 0]) ?_ 0 _ rfl;(with_reducible repeat (first|refine blk_drewN ?_ _|refine blk_drew ?_|refine blk_alloc ?_ _));refine blk_far ?_ NB563_562.out _;(with_reducible repeat (first|refine blk_drewN ?_ _|refine blk_drew ?_|refine blk_alloc ?_ _));refine blk_far ?_ NB563_562.out _;(with_reducible repeat (first|refine blk_drewN ?_ _|refine blk_drew ?_|refine blk_alloc ?_ _));exact BK563.out⟩,⟨zI HB HI481⟩⟩
       case round=>
        clear H'
        try clear c1
        try clear c2
        try clear p2
        try clear p4
        try clear q4
        try clear hx4
        try clear p5
        try clear q5
        try clear hx5
        try clear c6
        try clear p6
        try clear c7
        try clear c8
        try clear c9
        try clear c10
        try clear c11
        try clear c12
        try clear c13
        try clear c14
        try clear c15
        try clear c16
        try clear c17
        try clear c18
        try clear c19
        try clear c20
        try clear c21
        try clear c22
        try clear c23
        try clear p41
        try clear q41
        try clear hx41
        try clear p49
        try clear q49
        try clear hx49
        try clear p54
        try clear q54
        try clear hx54
        try clear c60
        try clear c61
        try clear c64
        try clear p64
        try clear c65
        try clear c74
        try clear c75
        try clear c76
        try clear c77
        try clear c78
        try clear c81
        try clear c82
        try clear c83
        try clear c84
        try clear c96
        try clear c96b0
        try clear c96b1
        try clear c98
        try clear c99
        try clear c99b0
        try clear c99b1
        try clear c100
        try clear c100b0
        try clear c100b1
        try clear c101
        try clear c101b0
        try clear c101b1
        try clear c102
        try clear c102b0
        try clear c102b1
        try clear c103
        try clear c103b0
        try clear c103b1
        try clear c104
        try clear c105
        try clear c106
        try clear c107
        try clear c108
        try clear c110
        try clear c111
        try clear c112
        try clear c113
        try clear c119
        try clear c120
        try clear c121
        try clear c122
        try clear c123
        try clear c125
        try clear c126
        try clear c127
        try clear c128
        try clear c133
        try clear c134
        try clear c135
        try clear c136
        try clear c137
        try clear c139
        try clear c140
        try clear c141
        try clear c142
        try clear c146
        try clear c147
        try clear c148
        try clear c149
        try clear c150
        try clear c152
        try clear c153
        try clear c154
        try clear c155
        try clear c158
        try clear c159
        try clear c160
        try clear c161
        try clear c162
        try clear c164
        try clear c165
        try clear c166
        try clear c167
        try clear c170
        try clear c171
        try clear c172
        try clear c173
        try clear c174
        try clear c176
        try clear c177
        try clear c178
        try clear c179
        try clear c182
        try clear c183
        try clear c184
        try clear c185
        try clear c186
        try clear c188
        try clear c189
        try clear c190
        try clear c191
        try clear c194
        try clear c196
        try clear c196b0
        try clear c197
        try clear c197b0
        try clear c198
        try clear c198b0
        try clear c199
        try clear c199b0
        try clear c200
        try clear c200b0
        try clear c201
        try clear c201b0
        try clear c201b1
        try clear c209
        try clear c210
        try clear c211
        try clear c212
        try clear c213
        try clear c214
        try clear c219
        try clear c220
        try clear c221
        try clear c222
        try clear c223
        try clear c224
        try clear c225
        try clear c226
        try clear c229
        try clear c230
        try clear c231
        try clear c232
        try clear c233
        try clear c234
        try clear c235
        try clear hx41_0
        try clear hx499_0
        try clear hx546_0
        try clear hx547_0
        try clear hx548_0
        try clear p2
        try clear p4
        try clear p41
        try clear p49
        try clear p499
        try clear p546
        try clear p547
        try clear p548
        try clear p6
        try clear p64
        try clear q4
        try clear q41
        try clear q49
        try clear q499
        try clear q546
        try clear q547
        try clear q548
        obtain ⟨x194_4,rfl,HA,HK4,HO_493002,HO_499001,HO_499004,HO_518001,HO_563001,BK492,BK498,BK505,BK517,BK518,BK553,BK562,BK563,HB⟩:=hrel
        cases gk with
        | zero=>exact absurd HA.out (by simp [soundservicelaw23_MixtureAlone.l2])
        | succ k4=>
         have H:=HA.out;clear HA;simp only [soundservicelaw23_MixtureAlone.l2] at H
         by_cases c237 : x194_4<(t555.length : Int)
         rotate_left
         ·rw [if_neg c237] at H;have c237b0:=decide_eq_false c237;clear c237
          by_cases c250 : t561=0
          rotate_left
          ·rw [if_neg c250] at H;have c250b0 : (t561 == 0)=false:=beq_eq_false_iff_ne.mpr c250;have c250b1 : (t561 != 0)=true:=bne_iff_ne.mpr c250;exact absurd (H.trans (congrArg some HR_.out)) (by simp)
          rw [if_pos c250] at H;have c250b0 : (t561 == 0)=true:=beq_iff_eq.mpr c250;have c250b1 : (t561 != 0)=false:=bne_eq_false_iff_eq.mpr c250;clear c250;obtain rfl:=Option.some.inj H;have hnb251:=NB562_492.out;have hnc251:=NB492_562.out;have hnb252:=NB562_498.out;have hnc252:=NB498_562.out;have hnb253:=NB562_505.out;have hnc253:=NB505_562.out;have hnb254:=NB562_517.out;have hnc254:=NB517_562.out;have hnb255:=NB562_518.out;have hnc255:=NB518_562.out;have hnb256:=NB562_553.out;have hnc256:=NB553_562.out;have hnb257:=NB562_563.out;have hnc257:=NB563_562.out;obtain ⟨hcz258_0,hfz258_0,hcz258_1,hfz258_1⟩:=zn2 BK562
          go_wp2
          go_ret
          exact ⟨zX,zW HB⟩
         rw [if_pos c237] at H;have c237b0:=decide_eq_true c237;clear c237
         by_cases c238 : 0≤x194_4
         rotate_left
         ·rw [if_neg c238] at H;exact absurd H (by simp)
         rw [if_pos c238] at H;have c238b0:=decide_eq_true c238;clear c238
         by_cases c239 : x194_4<(t555.length : Int)
         rotate_left
         ·rw [if_neg c239] at H;exact absurd H (by simp)
         rw [if_pos c239] at H;have c239b0:=decide_eq_true c239;clear c239
         by_cases c240 : (wrap64 (rd t555 x194_4))>t549
         ·rw [if_pos c240] at H;have c240b0:=decide_eq_true c240;clear c240;exact absurd (H.trans (congrArg some HR_.out)) (by simp)
         rw [if_neg c240] at H;have c240b0:=decide_eq_false c240;clear c240
         by_cases c241 : (wrap64 (wrap32 (-(rd t555 x194_4))))>t549
         ·rw [if_pos c241] at H;have c241b0 : decide (t549<(wrap64 (wrap32 (-(rd t555 x194_4)))))=true:=decide_eq_true c241;clear c241;exact absurd (H.trans (congrArg some HR_.out)) (by simp)
         rw [if_neg c241] at H;have c241b0 : decide (t549<(wrap64 (wrap32 (-(rd t555 x194_4)))))=false:=decide_eq_false c241;clear c241;have H':=zo H;clear H;have p564 : 0≤(x194_4 : Int):=zD;have q564 : x194_4<(t555.length : Int):=zD;obtain ⟨ad564,e564,hx564_0⟩:=Kd.at_int (Kd.R_reads' HO_563001.out).2.2 x194_4 p564 q564
         cases e564
         replace p564:=eq_true p564;replace q564:=eq_true q564;have hnb242:=NB553_492.out;have hnc242:=NB492_553.out;have hnb243:=NB553_498.out;have hnc243:=NB498_553.out;have hnb244:=NB553_505.out;have hnc244:=NB505_553.out;have hnb245:=NB553_517.out;have hnc245:=NB517_553.out;have hnb246:=NB553_518.out;have hnc246:=NB518_553.out;have hnb247:=NB553_562.out;have hnc247:=NB562_553.out;have hnb248:=NB553_563.out;have hnc248:=NB563_553.out;obtain ⟨hcz249_0,hfz249_0,hcz249_1,hfz249_1,hcz249_2,hfz249_2⟩:=zn3 BK553
         go_wp2
         go_roundg k4
         case measure=>have:=HK1.out;have:=HJ55.out;have:=HK3.out;have:=HK4.out;omega
         case rel=>exact ⟨(wrap64 (x194_4+1)),zE,H',⟨by have:=HK1.out;have:=HJ55.out;have:=HK3.out;have:=HK4.out;omega⟩,⟨by (try simp only [hl499001_1]);(with_reducible repeat (first|apply Kd.V_alloc|apply Kd.V_drewN|apply Kd.V_drew));exact HO_493002.out⟩,⟨by (try simp only [hl499001_1]);(with_reducible repeat (first|apply Kd.V_alloc|apply Kd.V_drewN|apply Kd.V_drew));exact HO_499001.out⟩,⟨by (try simp only [hl499001_1]);(with_reducible repeat (first|apply Kd.V_alloc|apply Kd.V_drewN|apply Kd.V_drew));exact HO_499004.out⟩,⟨by (try simp only [hl499001_1]);(with_reducible repeat (first|apply Kd.R_alloc|apply Kd.R_drewN|apply Kd.R_drew));exact HO_518001.out⟩,⟨by (try simp only [hl499001_1]);(with_reducible repeat (first|apply Kd.R_alloc|apply Kd.R_drewN|apply Kd.R_drew));exact HO_563001.out⟩,⟨by (try simp only [hl499001_1]);(with_reducible repeat (first|refine blk_drewN ?_ _|refine blk_drew ?_|refine blk_alloc ?_ _));exact BK492.out⟩,⟨by (try simp only [hl499001_1]);(with_reducible repeat (first|refine blk_drewN ?_ _|refine blk_drew ?_|refine blk_alloc ?_ _));exact BK498.out⟩,⟨by (try simp only [hl499001_1]);(with_reducible repeat (first|refine blk_drewN ?_ _|refine blk_drew ?_|refine blk_alloc ?_ _));exact BK505.out⟩,⟨by (try simp only [hl499001_1]);(with_reducible repeat (first|refine blk_drewN ?_ _|refine blk_drew ?_|refine blk_alloc ?_ _));exact BK517.out⟩,⟨by (try simp only [hl499001_1]);(with_reducible repeat (first|refine blk_drewN ?_ _|refine blk_drew ?_|refine blk_alloc ?_ _));exact BK518.out⟩,⟨by (try simp only [hl499001_1]);(with_reducible repeat (first|refine blk_drewN ?_ _|refine blk_drew ?_|refine blk_alloc ?_ _));exact BK553.out⟩,⟨by (try simp only [hl499001_1]);(with_reducible repeat (first|refine blk_drewN ?_ _|refine blk_drew ?_|refine blk_alloc ?_ _));exact BK562.out⟩,⟨by (try simp only [hl499001_1]);(with_reducible repeat (first|refine blk_drewN ?_ _|refine blk_drew ?_|refine blk_alloc ?_ _));exact BK563.out⟩,⟨zW HB⟩⟩

def soundservicelaw23_MixtureAlone.Pure : Prop:=∀ (l0 : List Int),l0.length≤maxLen→l0.length*1≤140737488351232→(∀ x ∈ l0,(Lit.int .u8 x).wf=true)→∃ k,soundservicelaw23_MixtureAlone.f k l0=some true
theorem soundservicelaw23_MixtureAlone.walk (P : soundservicelaw23_MixtureAlone.Pure) (a0 : Option Addr) (len0 cap0 : Nat) (z0 : List Int) (w : World) (w0 : (a0=none∧len0=0∧cap0=0∧z0=[])∨∃ x,a0=some x∧len0≤cap0∧cap0≤maxLen∧z0.length=cap0∧(∀ i,i<z0.length→w.cell? (x.add i)=some (.int .u8 (z0.getD i 0)))∧∀ n ∈ z0,(Lit.int .u8 n).wf=true) (y0 : len0*1≤140737488351232) :
  Calls Try.prog 6 #[.slice a0 len0 cap0] w fun e w'=>e = .returned (.bool true)∧Below w.heap.size w w':=by
 obtain ⟨l0,rfl,hr0,hm0,hw0,hc0⟩:=ReadsInt.ofRowC w0;obtain ⟨k,h⟩:=P l0 hm0 y0 hw0;refine (soundservicelaw23_MixtureAlone.calls k _ _ l0 true w (Kd.C_of_reads (d:=(0 : Int)) (h1:=fun _=>rfl) hr0) hc0 rfl h).mono ?_;rintro e w' ⟨rfl,hd⟩;exact ⟨rfl,hd⟩

end Go.Proofs.Ytcnmemcclhahnaa.QT
