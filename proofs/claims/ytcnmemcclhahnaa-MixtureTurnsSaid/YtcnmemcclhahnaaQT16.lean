-- Written by a program of this session, out of the seat's translation; checked by the kernel alone.
import Derived.Test.YtcnmemcclhahnaaQT0
import Derived.Test.YtcnmemcclhahnaaQT1
import Derived.Test.YtcnmemcclhahnaaQT9
import Derived.Test.YtcnmemcclhahnaaQT11
import Derived.Test.YtcnmemcclhahnaaQT12
import Derived.Test.YtcnmemcclhahnaaQT15
namespace Go.Proofs.Ytcnmemcclhahnaa.QT
open Go.RowKit Go.Proofs.YtcnmemcclhahnaaW.PrintWords Go.Proofs.YtcnmemcclhahnaaW.PrintLast Go.Proofs.YtcnmemcclhahnaaW.PrintMore
attribute [local go_sem] max2_int min2_int max_two min_two max_three min_three max_four min_four   -- for this text's walks alone
set_option linter.unusedVariables false
set_option linter.unusedSimpArgs false

attribute [local go_sem high] eqA24
/-! ### soundservicelaw23_MixtureTurns: function 7 -/
mutual
def soundservicelaw23_MixtureTurns.l0 : Nat → Int → Int → List (S54) → Int → List (S54) → List (S54) → Int → Int → Int → Int → Int → Option (Bool)
 | 0, _, _, _, _, _, _, _, _, _, _, _ => none
 | k + 1, x6, x7, x8, x10, x11, x42, x43, x44, x490000, x490001, x490002 => if x44 < x43 then (if 0 ≤ x44 then (if x44 < (x42.length : Int) then (if 0 ≤ (wrap64 (x10 * ((rd_T54 x42 x44).f1.f0))) then (if (wrap64 (x10 * ((rd_T54 x42 x44).f1.f0))) ≤ (((rd_T54 x42 x44).f1.f2).length : Int) then ((some (((rd_T54 x42 x44).f1.f2).drop ((wrap64 (x10 * ((rd_T54 x42 x44).f1.f0))) : Int).toNat : List Int)).bind fun y492 => (if ([] : List Int).length + y492.length < 17592186044416 then ((some (([] : List Int) ++ y492 : List Int)).bind fun y497 => ((some (((rd_T54 x42 x44).f1.f2).take ((wrap64 (x10 * ((rd_T54 x42 x44).f1.f0))) : Int).toNat : List Int)).bind fun y500 => (if y497.length + y500.length < 17592186044416 then (if x11.length < 1353245080339 then (soundservicelaw23_MixtureTurns.l0 k x6 x7 x8 x10 (x11 ++ [(⟨(⟨(rd_T54 x42 x44).f0.f0, (rd_T54 x42 x44).f0.f1⟩ : S43), (⟨(rd_T54 x42 x44).f1.f0, (rd_T54 x42 x44).f1.f1, (y497 ++ y500)⟩ : S50), (⟨(rd_T54 x42 x44).f2.f0, (rd_T54 x42 x44).f2.f1, (rd_T54 x42 x44).f2.f2, (rd_T54 x42 x44).f2.f3⟩ : S52)⟩ : S54)]) x42 x43 (wrap64 (x44 + 1)) x490000 x490001 x490002) else (none)) else (none)))) else (none))) else (none)) else (none)) else (none)) else (none)) else ((mixture_Mix.f k x6 x7 x8 x490000 x490001 x490002).bind fun bt511 => ((mixture_Mix.f k x6 x7 x11 x490000 x490001 x490002).bind fun bt521 => (if bt511.2.2.2.2.2 = 0 then (if bt521.2.2.2.2.2 = 0 then (if (!(bt511.2.2.1 == bt521.2.2.1) || (!(bt511.2.2.2.1 == bt521.2.2.2.1) || (!(bt511.2.2.2.2.1 == bt521.2.2.2.2.1)))) = true then (soundservicelaw23_MixtureTurns.j1 k x6 x10 true bt511.1 bt511.2.1 bt521.1 bt521.2.1) else (if (bt511.2.1.length : Int) = (wrap64 (x6 * x7)) then (soundservicelaw23_MixtureTurns.j1 k x6 x10 ((bt521.2.1.length : Int) != (wrap64 (x6 * x7))) bt511.1 bt511.2.1 bt521.1 bt521.2.1) else (soundservicelaw23_MixtureTurns.j1 k x6 x10 true bt511.1 bt511.2.1 bt521.1 bt521.2.1))) else (soundservicelaw23_MixtureTurns.j1 k x6 x10 true bt511.1 bt511.2.1 bt521.1 bt521.2.1)) else (soundservicelaw23_MixtureTurns.j1 k x6 x10 true bt511.1 bt511.2.1 bt521.1 bt521.2.1))))
def soundservicelaw23_MixtureTurns.j1 : Nat → Int → Int → Bool → Int → List Int → Int → List Int → Option (Bool)
 | 0, _, _, _, _, _, _, _ => none
 | k + 1, x6, x10, x120, x520000, x520001, x530000, x530001 => if x120 = true then (some false) else (soundservicelaw23_MixtureTurns.l1 k x6 x10 x530001 (x530001.length : Int) 0 x520000 x520001)
def soundservicelaw23_MixtureTurns.l1 : Nat → Int → Int → List Int → Int → Int → Int → List Int → Option (Bool)
 | 0, _, _, _, _, _, _, _ => none
 | k + 1, x6, x10, x122, x123, x124, x520000, x520001 => if x124 < x123 then (if 0 ≤ x124 then (if x124 < (x122.length : Int) then (if x6 = 0 then (none) else (if 0 ≤ (wrap64 ((wrap64 ((wrap64 (Int.tdiv x124 x6)) * x6)) + (Int.tmod (wrap64 ((Int.tmod x124 x6) + x10)) x6))) then (if (wrap64 ((wrap64 ((wrap64 (Int.tdiv x124 x6)) * x6)) + (Int.tmod (wrap64 ((Int.tmod x124 x6) + x10)) x6))) < (x520001.length : Int) then (if (rd x122 x124) = (rd x520001 (wrap64 ((wrap64 ((wrap64 (Int.tdiv x124 x6)) * x6)) + (Int.tmod (wrap64 ((Int.tmod x124 x6) + x10)) x6)))) then (soundservicelaw23_MixtureTurns.l1 k x6 x10 x122 x123 (wrap64 (x124 + 1)) x520000 x520001) else (some false)) else (none)) else (none))) else (none)) else (none)) else (some true)
end
def soundservicelaw23_MixtureTurns.f (k : Nat) (l0 : List Int) (a1 : Int) : Option (Bool) := (soundservicelaw23_sane.f k).bind fun t474 => (if t474 = true then ((soundservicemade_New.f l0).bind fun t475 => ((soundservicemade_Dice_Next.f t475 3).bind fun bt477 => ((soundservicemade_Dice_Next.f bt477.2 8).bind fun bt479 => ((soundservicelaw23_made.f k bt479.2 (wrap64 (1 + bt477.1)) bt479.1).bind fun bt481 => ((soundservicelaw23_limit.f bt481.2).bind fun bt485 => (if (wrap64 (1 + bt477.1)) = 0 then (none) else (soundservicelaw23_MixtureTurns.l0 k (wrap64 (1 + bt477.1)) bt479.1 bt481.1 (Int.tmod (wrap64 (a1)) (wrap64 (1 + bt477.1))) ([] : List (S54)) bt481.1 (bt481.1.length : Int) 0 bt485.1 bt485.2.1 bt485.2.2.1))))))) else (some false))
theorem soundservicelaw23_MixtureTurns.mono_l : ∀ k, (∀ y0 y1 y2 y3 y4 y5 y6 y7 y8 y9 y10, LeO (soundservicelaw23_MixtureTurns.l0 k y0 y1 y2 y3 y4 y5 y6 y7 y8 y9 y10) (soundservicelaw23_MixtureTurns.l0 (k + 1) y0 y1 y2 y3 y4 y5 y6 y7 y8 y9 y10)) ∧ (∀ y0 y1 y2 y3 y4 y5 y6, LeO (soundservicelaw23_MixtureTurns.j1 k y0 y1 y2 y3 y4 y5 y6) (soundservicelaw23_MixtureTurns.j1 (k + 1) y0 y1 y2 y3 y4 y5 y6)) ∧ (∀ y0 y1 y2 y3 y4 y5 y6, LeO (soundservicelaw23_MixtureTurns.l1 k y0 y1 y2 y3 y4 y5 y6) (soundservicelaw23_MixtureTurns.l1 (k + 1) y0 y1 y2 y3 y4 y5 y6))
 | 0 => ⟨fun _ _ _ _ _ _ _ _ _ _ _ r h => by simp [soundservicelaw23_MixtureTurns.l0] at h, fun _ _ _ _ _ _ _ r h => by simp [soundservicelaw23_MixtureTurns.j1] at h, fun _ _ _ _ _ _ _ r h => by simp [soundservicelaw23_MixtureTurns.l1] at h⟩
 | k + 1 => by
  obtain ⟨ih0, ih1, ih2⟩ := soundservicelaw23_MixtureTurns.mono_l k
  refine ⟨?_, ?_, ?_⟩
  ·intro y0 y1 y2 y3 y4 y5 y6 y7 y8 y9 y10
   unfold soundservicelaw23_MixtureTurns.l0
   repeat' first
   | (with_reducible exact ih0 _ _ _ _ _ _ _ _ _ _ _)
   | (with_reducible exact ih1 _ _ _ _ _ _ _)
   | (with_reducible exact ih2 _ _ _ _ _ _ _)
   | (with_reducible exact mixture_Mix.mono _ _ _ _ _ _ _)
   | (with_reducible exact soundservicelaw23_made.mono _ _ _ _)
   | (with_reducible exact soundservicelaw23_sane.mono _)
   | (with_reducible exact LeO.refl _)
   | (with_reducible exact LeO.none _)
   | (with_reducible refine LeO.ite ?_ ?_)
   | (with_reducible refine LeO.bind ?_ (fun _ => ?_))
   | exact ih0 _ _ _ _ _ _ _ _ _ _ _
   | exact ih1 _ _ _ _ _ _ _
   | exact ih2 _ _ _ _ _ _ _
   | exact mixture_Mix.mono _ _ _ _ _ _ _
   | exact soundservicelaw23_made.mono _ _ _ _
   | exact soundservicelaw23_sane.mono _
   | exact LeO.none _
   | refine LeO.ite ?_ ?_
   | refine LeO.bind ?_ (fun _ => ?_)
  ·intro y0 y1 y2 y3 y4 y5 y6
   unfold soundservicelaw23_MixtureTurns.j1
   repeat' first
   | (with_reducible exact ih0 _ _ _ _ _ _ _ _ _ _ _)
   | (with_reducible exact ih1 _ _ _ _ _ _ _)
   | (with_reducible exact ih2 _ _ _ _ _ _ _)
   | (with_reducible exact mixture_Mix.mono _ _ _ _ _ _ _)
   | (with_reducible exact soundservicelaw23_made.mono _ _ _ _)
   | (with_reducible exact soundservicelaw23_sane.mono _)
   | (with_reducible exact LeO.refl _)
   | (with_reducible exact LeO.none _)
   | (with_reducible refine LeO.ite ?_ ?_)
   | (with_reducible refine LeO.bind ?_ (fun _ => ?_))
   | exact ih0 _ _ _ _ _ _ _ _ _ _ _
   | exact ih1 _ _ _ _ _ _ _
   | exact ih2 _ _ _ _ _ _ _
   | exact mixture_Mix.mono _ _ _ _ _ _ _
   | exact soundservicelaw23_made.mono _ _ _ _
   | exact soundservicelaw23_sane.mono _
   | exact LeO.none _
   | refine LeO.ite ?_ ?_
   | refine LeO.bind ?_ (fun _ => ?_)
  ·intro y0 y1 y2 y3 y4 y5 y6
   unfold soundservicelaw23_MixtureTurns.l1
   repeat' first
   | (with_reducible exact ih0 _ _ _ _ _ _ _ _ _ _ _)
   | (with_reducible exact ih1 _ _ _ _ _ _ _)
   | (with_reducible exact ih2 _ _ _ _ _ _ _)
   | (with_reducible exact mixture_Mix.mono _ _ _ _ _ _ _)
   | (with_reducible exact soundservicelaw23_made.mono _ _ _ _)
   | (with_reducible exact soundservicelaw23_sane.mono _)
   | (with_reducible exact LeO.refl _)
   | (with_reducible exact LeO.none _)
   | (with_reducible refine LeO.ite ?_ ?_)
   | (with_reducible refine LeO.bind ?_ (fun _ => ?_))
   | exact ih0 _ _ _ _ _ _ _ _ _ _ _
   | exact ih1 _ _ _ _ _ _ _
   | exact ih2 _ _ _ _ _ _ _
   | exact mixture_Mix.mono _ _ _ _ _ _ _
   | exact soundservicelaw23_made.mono _ _ _ _
   | exact soundservicelaw23_sane.mono _
   | exact LeO.none _
   | refine LeO.ite ?_ ?_
   | refine LeO.bind ?_ (fun _ => ?_)
theorem soundservicelaw23_MixtureTurns.mono : ∀ a0 a1 k, LeO (soundservicelaw23_MixtureTurns.f k a0 a1) (soundservicelaw23_MixtureTurns.f (k + 1) a0 a1) := by
 intro a0 a1 k
 obtain ⟨ih0, ih1, ih2⟩ := soundservicelaw23_MixtureTurns.mono_l k
 unfold soundservicelaw23_MixtureTurns.f
 repeat' first
   | (with_reducible exact ih0 _ _ _ _ _ _ _ _ _ _ _)
   | (with_reducible exact ih1 _ _ _ _ _ _ _)
   | (with_reducible exact ih2 _ _ _ _ _ _ _)
   | (with_reducible exact mixture_Mix.mono _ _ _ _ _ _ _)
   | (with_reducible exact soundservicelaw23_made.mono _ _ _ _)
   | (with_reducible exact soundservicelaw23_sane.mono _)
   | (with_reducible exact LeO.refl _)
   | (with_reducible exact LeO.none _)
   | (with_reducible refine LeO.ite ?_ ?_)
   | (with_reducible refine LeO.bind ?_ (fun _ => ?_))
   | exact ih0 _ _ _ _ _ _ _ _ _ _ _
   | exact ih1 _ _ _ _ _ _ _
   | exact ih2 _ _ _ _ _ _ _
   | exact mixture_Mix.mono _ _ _ _ _ _ _
   | exact soundservicelaw23_made.mono _ _ _ _
   | exact soundservicelaw23_sane.mono _
   | exact LeO.none _
   | refine LeO.ite ?_ ?_
   | refine LeO.bind ?_ (fun _ => ?_)
def soundservicelaw23_MixtureTurns.T12 : Bool × List (List Nat × List Nat) := (true, [([], []), ([0], [0]), ([1], [1]), ([], []), ([], []), ([3, 4], [3, 4]), ([2, 5], [2, 5]), ([6], [6]), ([], []), ([8], [8]), ([9], [9]), ([], []), ([], []), ([11, 12], [11, 12]), ([10, 13], [10, 13]), ([7, 14, 7], [7, 14]), ([0, 1, 2, 3, 4, 5, 6, 7, 8, 9, 10, 11, 12, 13, 14, 15], []), ([16, 0, 1, 2, 3, 4, 5, 6, 7, 8, 9, 10, 11, 12, 13, 14, 15], [16]), ([17, 15, 15, 0, 1, 2, 3, 4, 5, 6, 7, 8, 9, 10, 11, 12, 13, 14, 15], [15, 17])])
def soundservicelaw23_MixtureTurns.B12 : List Nat := [0, 1, 3, 0, 0, 24, 63, 127, 0, 256, 768, 0, 0, 6144, 16128, 32767, 65535, 131071, 262143]
theorem soundservicelaw23_MixtureTurns.tab12 : rtab .any (opsOf Try.f7 12) = soundservicelaw23_MixtureTurns.T12 := by kernel_rfl
theorem soundservicelaw23_MixtureTurns.bits12 : waitsOk soundservicelaw23_MixtureTurns.T12.2 soundservicelaw23_MixtureTurns.B12 = true := by kernel_rfl
def soundservicelaw23_MixtureTurns.T22 : Bool × List (List Nat × List Nat) := (true, [([], []), ([], []), ([1], [1]), ([], []), ([], []), ([3, 4], [3, 4]), ([], []), ([5, 6], [5, 6]), ([], []), ([], []), ([8, 9], [8, 9]), ([], []), ([10, 11], [10, 11]), ([], []), ([12, 13], [12, 13]), ([7, 14], [7, 14]), ([2, 15], [2, 15]), ([16], [16]), ([0, 17], [0, 17])])
def soundservicelaw23_MixtureTurns.B22 : List Nat := [0, 0, 2, 0, 0, 24, 0, 120, 0, 0, 768, 0, 3840, 0, 16128, 32760, 65534, 131070, 262143]
theorem soundservicelaw23_MixtureTurns.tab22 : rtab .any (opsOf Try.f7 22) = soundservicelaw23_MixtureTurns.T22 := by kernel_rfl
theorem soundservicelaw23_MixtureTurns.bits22 : waitsOk soundservicelaw23_MixtureTurns.T22.2 soundservicelaw23_MixtureTurns.B22 = true := by kernel_rfl
set_option maxHeartbeats 8000000 in
set_option maxRecDepth 100000 in
theorem soundservicelaw23_MixtureTurns.calls (k : Nat) (A0 : Option Addr) (c0 : Nat) (l0 : List Int) (a1 : Int) (r : Bool) (w : World) (hr0 : Kd.C (Kd.int .u8) w A0 l0.length l0) (hc0 : l0.length ≤ c0) (hr_ : r = true) (h : soundservicelaw23_MixtureTurns.f k l0 a1 = some r) :
  Calls Try.prog 7 #[.slice A0 l0.length c0, .int .u8 a1] w fun e w' => e = .returned (.bool r) ∧ Below w.heap.size w w' := by
 have hu24 := Try.underlying24
 have hu54 := Try.underlying54
 have hu43 := Try.underlying43
 have HR_ := Aside0.mk hr_
 clear hr_
 have HR0 := Aside0.mk hr0
 have HC0 := Aside0.mk hc0
 clear hr0 hc0
 have HB := Aside0.mk (Below.refl w.heap.size w)
 have H : ((soundservicelaw23_sane.f k).bind fun t474 => (if t474 = true then ((soundservicemade_New.f l0).bind fun t475 => ((soundservicemade_Dice_Next.f t475 3).bind fun bt477 => ((soundservicemade_Dice_Next.f bt477.2 8).bind fun bt479 => ((soundservicelaw23_made.f k bt479.2 (wrap64 (1 + bt477.1)) bt479.1).bind fun bt481 => ((soundservicelaw23_limit.f bt481.2).bind fun bt485 => (if (wrap64 (1 + bt477.1)) = 0 then (none) else (soundservicelaw23_MixtureTurns.l0 k (wrap64 (1 + bt477.1)) bt479.1 bt481.1 (Int.tmod (wrap64 (a1)) (wrap64 (1 + bt477.1))) ([] : List (S54)) bt481.1 (bt481.1.length : Int) 0 bt485.1 bt485.2.1 bt485.2.2.1))))))) else (some false))) = some r := h
 clear h
 replace H := Option.bind_eq_some_iff.mp H
 obtain ⟨t474, A30, H⟩ := H
 replace H : (if t474 = true then ((soundservicemade_New.f l0).bind fun t475 => ((soundservicemade_Dice_Next.f t475 3).bind fun bt477 => ((soundservicemade_Dice_Next.f bt477.2 8).bind fun bt479 => ((soundservicelaw23_made.f k bt479.2 (wrap64 (1 + bt477.1)) bt479.1).bind fun bt481 => ((soundservicelaw23_limit.f bt481.2).bind fun bt485 => (if (wrap64 (1 + bt477.1)) = 0 then (none) else (soundservicelaw23_MixtureTurns.l0 k (wrap64 (1 + bt477.1)) bt479.1 bt481.1 (Int.tmod (wrap64 (a1)) (wrap64 (1 + bt477.1))) ([] : List (S54)) bt481.1 (bt481.1.length : Int) 0 bt485.1 bt485.2.1 bt485.2.2.1))))))) else (some false)) = some r := H
 have A3 := Aside0.mk A30
 clear A30
 by_cases c4 : t474 = true
 rotate_left
 ·replace c4 := Bool.eq_false_iff.mpr c4
  subst c4
  have H1 : (some false) = some r := by rw [if_neg (show ¬ (false = true) by decide)] at H; exact H
  clear H
  have H := H1
  clear H1
  exact absurd (H.trans (congrArg some HR_.out)) (by simp)
 subst c4
 have H1 : ((soundservicemade_New.f l0).bind fun t475 => ((soundservicemade_Dice_Next.f t475 3).bind fun bt477 => ((soundservicemade_Dice_Next.f bt477.2 8).bind fun bt479 => ((soundservicelaw23_made.f k bt479.2 (wrap64 (1 + bt477.1)) bt479.1).bind fun bt481 => ((soundservicelaw23_limit.f bt481.2).bind fun bt485 => (if (wrap64 (1 + bt477.1)) = 0 then (none) else (soundservicelaw23_MixtureTurns.l0 k (wrap64 (1 + bt477.1)) bt479.1 bt481.1 (Int.tmod (wrap64 (a1)) (wrap64 (1 + bt477.1))) ([] : List (S54)) bt481.1 (bt481.1.length : Int) 0 bt485.1 bt485.2.1 bt485.2.2.1))))))) = some r := by rw [if_pos rfl] at H; exact H
 clear H
 have H := H1
 clear H1
 replace H := Option.bind_eq_some_iff.mp H
 obtain ⟨t475, A50, H⟩ := H
 replace H : ((soundservicemade_Dice_Next.f t475 3).bind fun bt477 => ((soundservicemade_Dice_Next.f bt477.2 8).bind fun bt479 => ((soundservicelaw23_made.f k bt479.2 (wrap64 (1 + bt477.1)) bt479.1).bind fun bt481 => ((soundservicelaw23_limit.f bt481.2).bind fun bt485 => (if (wrap64 (1 + bt477.1)) = 0 then (none) else (soundservicelaw23_MixtureTurns.l0 k (wrap64 (1 + bt477.1)) bt479.1 bt481.1 (Int.tmod (wrap64 (a1)) (wrap64 (1 + bt477.1))) ([] : List (S54)) bt481.1 (bt481.1.length : Int) 0 bt485.1 bt485.2.1 bt485.2.2.1)))))) = some r := H
 have A5 := Aside0.mk A50
 clear A50
 replace H := Option.bind_eq_some_iff.mp H
 obtain ⟨⟨t477, t478⟩, A60, H⟩ := H
 replace H : ((soundservicemade_Dice_Next.f t478 8).bind fun bt479 => ((soundservicelaw23_made.f k bt479.2 (wrap64 (1 + t477)) bt479.1).bind fun bt481 => ((soundservicelaw23_limit.f bt481.2).bind fun bt485 => (if (wrap64 (1 + t477)) = 0 then (none) else (soundservicelaw23_MixtureTurns.l0 k (wrap64 (1 + t477)) bt479.1 bt481.1 (Int.tmod (wrap64 (a1)) (wrap64 (1 + t477))) ([] : List (S54)) bt481.1 (bt481.1.length : Int) 0 bt485.1 bt485.2.1 bt485.2.2.1))))) = some r := H
 have A6 := Aside0.mk A60
 clear A60
 replace H := Option.bind_eq_some_iff.mp H
 obtain ⟨⟨t479, t480⟩, A70, H⟩ := H
 replace H : ((soundservicelaw23_made.f k t480 (wrap64 (1 + t477)) t479).bind fun bt481 => ((soundservicelaw23_limit.f bt481.2).bind fun bt485 => (if (wrap64 (1 + t477)) = 0 then (none) else (soundservicelaw23_MixtureTurns.l0 k (wrap64 (1 + t477)) t479 bt481.1 (Int.tmod (wrap64 (a1)) (wrap64 (1 + t477))) ([] : List (S54)) bt481.1 (bt481.1.length : Int) 0 bt485.1 bt485.2.1 bt485.2.2.1)))) = some r := H
 have A7 := Aside0.mk A70
 clear A70
 replace H := Option.bind_eq_some_iff.mp H
 obtain ⟨⟨t481, t484⟩, A80, H⟩ := H
 replace H : ((soundservicelaw23_limit.f t484).bind fun bt485 => (if (wrap64 (1 + t477)) = 0 then (none) else (soundservicelaw23_MixtureTurns.l0 k (wrap64 (1 + t477)) t479 t481 (Int.tmod (wrap64 (a1)) (wrap64 (1 + t477))) ([] : List (S54)) t481 (t481.length : Int) 0 bt485.1 bt485.2.1 bt485.2.2.1))) = some r := H
 have A8 := Aside0.mk A80
 clear A80
 replace H := Option.bind_eq_some_iff.mp H
 obtain ⟨⟨t485, t486, t487, t488⟩, A90, H⟩ := H
 replace H : (if (wrap64 (1 + t477)) = 0 then (none) else (soundservicelaw23_MixtureTurns.l0 k (wrap64 (1 + t477)) t479 t481 (Int.tmod (wrap64 (a1)) (wrap64 (1 + t477))) ([] : List (S54)) t481 (t481.length : Int) 0 t485 t486 t487)) = some r := H
 have A9 := Aside0.mk A90
 clear A90
 by_cases c10 : (wrap64 (1 + t477)) = 0
 ·rw [if_pos c10] at H
  exact absurd H (by simp)
 rw [if_neg c10] at H
 have c10b0 : ((wrap64 (1 + t477)) == 0) = false := beq_eq_false_iff_ne.mpr c10
 have c10b1 : ((wrap64 (1 + t477)) != 0) = true := bne_iff_ne.mpr c10
 have H' := Aside0.mk H
 clear H
 go_enter Try.func7, Try.ntmps7
 go_wp2_with (first | ((with_reducible refine gate_callee (f := 8) rfl ?_); refine goesL_ (some 23) rfl rfl Try.func8 zk rfl #[] rfl zA ?_; (with_reducible refine (soundservicelaw23_sane.calls k  true _ rfl A3.out).mono ?_); rintro e w11 ⟨rfl, hb⟩; refine ⟨_, rfl, ?_⟩; replace HB := Aside0.mk (below_step (zW HB) hb); (try clear hb)) | ((with_reducible refine gate_callee (f := 10) rfl ?_); refine goesL_ (some 26) rfl rfl Try.func10 zk rfl #[.slice A0 l0.length c0] rfl zA ?_; (with_reducible refine (soundservicemade_New.calls _ _ l0 t475 w _ ?side1 ?side2 ?side3 A5.out).mono ?_); (case side1 => exact zW HB); (case side2 => exact HR0.out); (case side3 => exact HC0.out); rintro e w12 ⟨g476, rfl, hi, hb, hb2, hgw⟩; refine ⟨_, rfl, ?_⟩; replace HB := Aside0.mk (hb); have HI476 := Aside0.mk (hi); (try clear hb)) | ((with_reducible refine gate_callee (f := 11) rfl ?_); refine goesL_ (some 28) rfl rfl Try.func11 zk rfl #[.pointer (some ⟨g476, 0, none⟩), .int .i64 3] rfl zA ?_; (with_reducible refine (soundservicemade_Dice_Next.calls g476 t475 3 t477 t478 w _ ?side1 ?side2 A6.out).mono ?_); (case side1 => exact zJ HI476); (case side2 => exact zI HB HI476); rintro e w13 ⟨rfl, hi, hb, hk⟩; refine ⟨_, rfl, ?_⟩; replace HB := Aside0.mk (hb); replace HI476 := Aside0.mk (hi); (try clear hb); (try clear hk); (try clear hi)) | ((with_reducible refine gate_callee (f := 11) rfl ?_); refine goesL_ (some 31) rfl rfl Try.func11 zk rfl #[.pointer (some ⟨g476, 0, none⟩), .int .i64 8] rfl zA ?_; (with_reducible refine (soundservicemade_Dice_Next.calls g476 t478 8 t479 t480 w _ ?side1 ?side2 A7.out).mono ?_); (case side1 => exact zJ HI476); (case side2 => exact zI HB HI476); rintro e w14 ⟨rfl, hi, hb, hk⟩; refine ⟨_, rfl, ?_⟩; replace HB := Aside0.mk (hb); replace HI476 := Aside0.mk (hi); (try clear hb); (try clear hk); (try clear hi)) | ((with_reducible refine gate_callee (f := 12) rfl ?_); refine goesL_ (some 35) rfl rfl Try.func12 zk rfl #[.pointer (some ⟨g476, 0, none⟩), .int .i64 (wrap64 (1 + t477)), .int .i64 t479] rfl zA ?_; (with_reducible refine (soundservicelaw23_made.calls k g476 t480 (wrap64 (1 + t477)) t479 t481 t484 w _ ?side1 ?side2 A8.out).mono ?_); (case side1 => exact zJ HI476); (case side2 => exact zI HB HI476); rintro e w15 ⟨v482, rfl, ho0, hi, hb, hk⟩; refine ⟨_, rfl, ?_⟩; have HO483 := Aside0.mk (Kd.N_lower (Kd.N_mono (ok' := fun k_ => k_ ≠ g476) (Kd.S_N (Kd.S_bound ho0)) (fun k_ hk_ => (IsS71.fresh (zJ HI476) k_ hk_.2.1))) (below_size (zI HB HI476))); replace HB := Aside0.mk (hb); replace HI476 := Aside0.mk (hi); (try clear hb); (try clear hk); (try clear hi); (try clear ho0)) | ((with_reducible refine gate_callee (f := 13) rfl ?_); refine goesL_ (some 37) rfl rfl Try.func13 zk rfl #[.pointer (some ⟨g476, 0, none⟩)] rfl zA ?_; (with_reducible refine (soundservicelaw23_limit.calls g476 t484 t485 t486 t487 t488 w _ ?side1 ?side2 A9.out).mono ?_); (case side1 => exact zJ HI476); (case side2 => exact zI HB HI476); rintro e w16 ⟨rfl, hi, hb, hk⟩; refine ⟨_, rfl, ?_⟩; replace HO483 := Aside0.mk (Kd.N_mono (Kd.N_keep (Kd.N_mono (ok := fun k_ => k_ ≠ g476) (zN HO483) (fun k_ hk_ => (⟨hk_, hk_⟩ : _ ∧ k_ ≠ g476))) hk (fun _ h => h.2)) (fun _ h => h.1)); replace HB := Aside0.mk (hb); replace HI476 := Aside0.mk (hi); (try clear hb); (try clear hk); (try clear hi)) | ((with_reducible refine gate_dst (N := 9) rfl ?_); (try (refine gate_guard (by rfl) ?_; dsimp only)); refine box_event ?hg (N := 9) ?hd (cs := #[.int .i64 0, .int .i64 0, .int .i64 0]) (t := 24) ?hr ?_; (case hd => rfl); (case hg => rfl); (case hr => first | (go_simp; done) | (go_simp; rfl)); intro gb489 hg w17 hbox hb; replace HO483 := Aside0.mk (Kd.N_below (Kd.N_elderB (zN HO483) gb489 (Nat.le_of_eq hg.symm)) hb); have BK489 := Aside0.mk (hbox); have GW489 := Aside0.mk ((by rw [hg]; exact (below_size (zI HB HI476)) : w.heap.size ≤ gb489)); have GE489 := Aside0.mk ((by rw [hg]; exact (below_size (zI HB HI476)) : w.heap.size ≤ gb489)); replace HB := Aside0.mk (below_step (zI HB HI476) hb); have NB476_489 := Aside0.mk ((by rw [hg]; exact Nat.ne_of_lt (IsS71.lt (show IsS71 w _ g476 t488 from zJ HI476)) : g476 ≠ gb489)); have NB489_476 := Aside0.mk ((by rw [hg]; exact Nat.ne_of_gt (IsS71.lt (show IsS71 w _ g476 t488 from zJ HI476)) : gb489 ≠ g476)); replace HI476 := Aside0.mk (IsS71.below (zJ HI476) hb); clear hb hbox hg; have hnb18 := NB489_476.out; have hnc18 := NB476_489.out; have hcz19_0 := zc BK489 0 (.int .i64 0) rfl; have hcz19_1 := zc BK489 1 (.int .i64 0) rfl; have hcz19_2 := zc BK489 2 (.int .i64 0) rfl; have hfz19_0 := blk_frozen BK489.out 0; have hfz19_1 := blk_frozen BK489.out 1; have hfz19_2 := blk_frozen BK489.out 2; obtain ⟨Ao20, co20, eo20⟩ := Kd.N_slice HO483.out; subst eo20))
 go_loopg [11, 44] k (fun kq v11 v44 w' => ∃ (x11_1 : List (S54)) (x44_1 : Int), v44 = .int .i64 x44_1 ∧ Aside0 (soundservicelaw23_MixtureTurns.l0 kq (wrap64 (1 + t477)) t479 t481 (Int.tmod (wrap64 (a1)) (wrap64 (1 + t477))) x11_1 t481 (t481.length : Int) x44_1 t485 t486 t487 = some r) ∧ Aside0 (kq ≤ k) ∧ Aside0 (Kd.N k54 54 w' w.heap.size (fun k_ => some k_ ≠ (v11 : Value).ownBlock ∧ k_ ≠ gb489) (.slice Ao20 t481.length co20) t481) ∧ Aside0 (Kd.N k54 54 w' w.heap.size (fun k_ => some k_ ≠ ((.slice Ao20 t481.length co20) : Value).ownBlock ∧ k_ ≠ gb489) v11 x11_1) ∧ Aside0 (Kd.N k54 54 w' w.heap.size (fun k_ => some k_ ≠ (v11 : Value).ownBlock ∧ k_ ≠ gb489) (.slice Ao20 t481.length co20) t481) ∧ Aside0 (w'.heap[gb489]? = some (.cells #[.int .i64 t485, .int .i64 t486, .int .i64 t487] 24 (0, 0))) ∧ Aside0 (Below w.heap.size w w'))
 case atStart => exact ⟨(([] : List (S54))), (0), zE, H', ⟨Nat.le_refl _⟩, ⟨by (with_reducible repeat (first | apply Kd.N_alloc | apply Kd.N_drewN | apply Kd.N_drew)); exact Kd.N_mono (Kd.N_far (p := ⟨gb489, 2, none⟩) (Kd.N_far (p := ⟨gb489, 1, none⟩) (Kd.N_far (p := ⟨gb489, 0, none⟩) (Kd.N_mono HO483.out (fun k_ hk => (⟨hk, hk.2⟩ : _ ∧ k_ ≠ gb489))) (fun _ hk => hk.2) (.int .i64 t485)) (fun _ hk => hk.2) (.int .i64 t486)) (fun _ hk => hk.2) (.int .i64 t487)) (fun _ hk => ⟨(by simp [Value.ownBlock]), hk.1.2⟩)⟩, ⟨by first | exact Kd.S_nil _ _ _ _ _ | exact Kd.N_nil _ _ _ _ _ | exact Kd.V_nil _ _ _ _ _ | exact Kd.Q_nil _ _ _ _ _ | exact Kd.R_nil _ _ _ _ _⟩, ⟨by (with_reducible repeat (first | apply Kd.N_alloc | apply Kd.N_drewN | apply Kd.N_drew)); exact Kd.N_mono (Kd.N_far (p := ⟨gb489, 2, none⟩) (Kd.N_far (p := ⟨gb489, 1, none⟩) (Kd.N_far (p := ⟨gb489, 0, none⟩) (Kd.N_mono HO483.out (fun k_ hk => (⟨hk, hk.2⟩ : _ ∧ k_ ≠ gb489))) (fun _ hk => hk.2) (.int .i64 t485)) (fun _ hk => hk.2) (.int .i64 t486)) (fun _ hk => hk.2) (.int .i64 t487)) (fun _ hk => ⟨(by simp [Value.ownBlock]), hk.1.2⟩)⟩, ⟨zB BK489⟩, ⟨zI HB HI476⟩⟩
 case round =>
  clear H'
  try clear c1
  try clear p2
  try clear c4
  try clear p6
  try clear c7
  try clear c8
  try clear c10
  try clear c10b0
  try clear c10b1
  try clear c11
  try clear c12
  try clear c13
  try clear c18
  try clear hcz19_0
  try clear hcz19_1
  try clear hcz19_2
  try clear hfz19_0
  try clear hfz19_1
  try clear hfz19_2
  obtain ⟨x11_1, x44_1, rfl, HA, HK1, HO_8, HO_11, HO_42, BK489, HB⟩ := hrel
  cases gk with
  | zero => exact absurd HA.out (by simp [soundservicelaw23_MixtureTurns.l0])
  | succ k1 =>
   have H := HA.out
   clear HA
   simp only [soundservicelaw23_MixtureTurns.l0] at H
   by_cases c21 : x44_1 < (t481.length : Int)
   ·rw [if_pos c21] at H
    have c21b0 : decide (x44_1 < (t481.length : Int)) = true := decide_eq_true c21
    clear c21
    by_cases c22 : 0 ≤ x44_1
    rotate_left
    ·rw [if_neg c22] at H
     exact absurd H (by simp)
    rw [if_pos c22] at H
    have c22b0 : decide (0 ≤ x44_1) = true := decide_eq_true c22
    clear c22
    by_cases c23 : x44_1 < (t481.length : Int)
    rotate_left
    ·rw [if_neg c23] at H
     exact absurd H (by simp)
    rw [if_pos c23] at H
    have c23b0 : decide (x44_1 < (t481.length : Int)) = true := decide_eq_true c23
    clear c23
    obtain ⟨ji24, hji24⟩ : ∃ j_ : Int, (wrap64 ((Int.tmod (wrap64 (a1)) (wrap64 (1 + t477))) * ((rd_T54 t481 x44_1).f1.f0))) = j_ := ⟨_, rfl⟩
    replace H : (if 0 ≤ (ji24) then (if (ji24) ≤ (((rd_T54 t481 x44_1).f1.f2).length : Int) then ((some (((rd_T54 t481 x44_1).f1.f2).drop ((ji24) : Int).toNat : List Int)).bind fun y492 => (if ([] : List Int).length + y492.length < 17592186044416 then ((some (([] : List Int) ++ y492 : List Int)).bind fun y497 => ((some (((rd_T54 t481 x44_1).f1.f2).take ((ji24) : Int).toNat : List Int)).bind fun y500 => (if y497.length + y500.length < 17592186044416 then (if x11_1.length < 1353245080339 then (soundservicelaw23_MixtureTurns.l0 k1 (wrap64 (1 + t477)) t479 t481 (Int.tmod (wrap64 (a1)) (wrap64 (1 + t477))) (x11_1 ++ [(⟨(⟨(rd_T54 t481 x44_1).f0.f0, (rd_T54 t481 x44_1).f0.f1⟩ : S43), (⟨(rd_T54 t481 x44_1).f1.f0, (rd_T54 t481 x44_1).f1.f1, (y497 ++ y500)⟩ : S50), (⟨(rd_T54 t481 x44_1).f2.f0, (rd_T54 t481 x44_1).f2.f1, (rd_T54 t481 x44_1).f2.f2, (rd_T54 t481 x44_1).f2.f3⟩ : S52)⟩ : S54)]) t481 (t481.length : Int) (wrap64 (x44_1 + 1)) t485 t486 t487) else (none)) else (none)))) else (none))) else (none)) else (none)) = some r := by first | (rw [hji24] at H; exact H) | (simp only [hji24] at H ⊢; exact H)
    have hji24w : (IntKind.i64.wrap ((Int.tmod (wrap64 (a1)) (wrap64 (1 + t477))) * ((rd_T54 t481 x44_1).f1.f0))) = ji24 := (i64_w _).trans hji24
    by_cases c25 : 0 ≤ (ji24)
    rotate_left
    ·rw [if_neg c25] at H
     exact absurd H (by simp)
    rw [if_pos c25] at H
    have c25b0 := eq_true c25
    have c25b1 : decide (0 ≤ (ji24)) = true := decide_eq_true c25
    clear c25
    by_cases c26 : (ji24) ≤ (((rd_T54 t481 x44_1).f1.f2).length : Int)
    rotate_left
    ·rw [if_neg c26] at H
     exact absurd H (by simp)
    rw [if_pos c26] at H
    have c26b0 := eq_true c26
    have c26b1 : decide ((ji24) ≤ (((rd_T54 t481 x44_1).f1.f2).length : Int)) = true := decide_eq_true c26
    clear c26
    obtain ⟨y492, hy492⟩ : ∃ y_ : List Int, y_ = (((rd_T54 t481 x44_1).f1.f2).drop ((ji24) : Int).toNat) := ⟨_, rfl⟩
    replace H : (if ([] : List Int).length + y492.length < 17592186044416 then ((some (([] : List Int) ++ y492 : List Int)).bind fun y497 => ((some (((rd_T54 t481 x44_1).f1.f2).take ((ji24) : Int).toNat : List Int)).bind fun y500 => (if y497.length + y500.length < 17592186044416 then (if x11_1.length < 1353245080339 then (soundservicelaw23_MixtureTurns.l0 k1 (wrap64 (1 + t477)) t479 t481 (Int.tmod (wrap64 (a1)) (wrap64 (1 + t477))) (x11_1 ++ [(⟨(⟨(rd_T54 t481 x44_1).f0.f0, (rd_T54 t481 x44_1).f0.f1⟩ : S43), (⟨(rd_T54 t481 x44_1).f1.f0, (rd_T54 t481 x44_1).f1.f1, (y497 ++ y500)⟩ : S50), (⟨(rd_T54 t481 x44_1).f2.f0, (rd_T54 t481 x44_1).f2.f1, (rd_T54 t481 x44_1).f2.f2, (rd_T54 t481 x44_1).f2.f3⟩ : S52)⟩ : S54)]) t481 (t481.length : Int) (wrap64 (x44_1 + 1)) t485 t486 t487) else (none)) else (none)))) else (none)) = some r := by first | (rw [hy492]; with_reducible exact H) | (have H2_ := (Option.bind_some _ _).symm.trans H; rw [hy492]; with_reducible exact H2_) | (have H2_ := (Option.bind_some _ _).symm.trans H; with_reducible exact H2_) | with_reducible exact H | (rw [hy492]; exact H) | exact H
    have Ny492 := Aside0.mk hy492
    clear hy492
    by_cases c27 : ([] : List Int).length + y492.length < 17592186044416
    rotate_left
    ·rw [if_neg c27] at H
     exact absurd H (by simp)
    rw [if_pos c27] at H
    have LMc27 := Aside0.mk c27
    clear c27
    obtain ⟨y497, hy497⟩ : ∃ y_ : List Int, y_ = (([] : List Int) ++ y492) := ⟨_, rfl⟩
    replace H : ((some (((rd_T54 t481 x44_1).f1.f2).take ((ji24) : Int).toNat : List Int)).bind fun y500 => (if y497.length + y500.length < 17592186044416 then (if x11_1.length < 1353245080339 then (soundservicelaw23_MixtureTurns.l0 k1 (wrap64 (1 + t477)) t479 t481 (Int.tmod (wrap64 (a1)) (wrap64 (1 + t477))) (x11_1 ++ [(⟨(⟨(rd_T54 t481 x44_1).f0.f0, (rd_T54 t481 x44_1).f0.f1⟩ : S43), (⟨(rd_T54 t481 x44_1).f1.f0, (rd_T54 t481 x44_1).f1.f1, (y497 ++ y500)⟩ : S50), (⟨(rd_T54 t481 x44_1).f2.f0, (rd_T54 t481 x44_1).f2.f1, (rd_T54 t481 x44_1).f2.f2, (rd_T54 t481 x44_1).f2.f3⟩ : S52)⟩ : S54)]) t481 (t481.length : Int) (wrap64 (x44_1 + 1)) t485 t486 t487) else (none)) else (none))) = some r := by first | (rw [hy497]; with_reducible exact H) | (have H2_ := (Option.bind_some _ _).symm.trans H; rw [hy497]; with_reducible exact H2_) | (have H2_ := (Option.bind_some _ _).symm.trans H; with_reducible exact H2_) | with_reducible exact H | (rw [hy497]; exact H) | exact H
    have Ny497 := Aside0.mk hy497
    clear hy497
    have c28b0 := eq_true (zD : 0 ≤ (ji24))
    have c29b0 := eq_true (zD : (ji24) ≤ (((rd_T54 t481 x44_1).f1.f2).length : Int))
    obtain ⟨y500, hy500⟩ : ∃ y_ : List Int, y_ = (((rd_T54 t481 x44_1).f1.f2).take ((ji24) : Int).toNat) := ⟨_, rfl⟩
    replace H : (if y497.length + y500.length < 17592186044416 then (if x11_1.length < 1353245080339 then (soundservicelaw23_MixtureTurns.l0 k1 (wrap64 (1 + t477)) t479 t481 (Int.tmod (wrap64 (a1)) (wrap64 (1 + t477))) (x11_1 ++ [(⟨(⟨(rd_T54 t481 x44_1).f0.f0, (rd_T54 t481 x44_1).f0.f1⟩ : S43), (⟨(rd_T54 t481 x44_1).f1.f0, (rd_T54 t481 x44_1).f1.f1, (y497 ++ y500)⟩ : S50), (⟨(rd_T54 t481 x44_1).f2.f0, (rd_T54 t481 x44_1).f2.f1, (rd_T54 t481 x44_1).f2.f2, (rd_T54 t481 x44_1).f2.f3⟩ : S52)⟩ : S54)]) t481 (t481.length : Int) (wrap64 (x44_1 + 1)) t485 t486 t487) else (none)) else (none)) = some r := by first | (rw [hy500]; with_reducible exact H) | (have H2_ := (Option.bind_some _ _).symm.trans H; rw [hy500]; with_reducible exact H2_) | (have H2_ := (Option.bind_some _ _).symm.trans H; with_reducible exact H2_) | with_reducible exact H | (rw [hy500]; exact H) | exact H
    have Ny500 := Aside0.mk hy500
    clear hy500
    by_cases c30 : y497.length + y500.length < 17592186044416
    rotate_left
    ·rw [if_neg c30] at H
     exact absurd H (by simp)
    rw [if_pos c30] at H
    have LMc30 := Aside0.mk c30
    clear c30
    obtain ⟨y505, hy505⟩ : ∃ y_ : List Int, y_ = (y497 ++ y500) := ⟨_, rfl⟩
    replace H : (if x11_1.length < 1353245080339 then (soundservicelaw23_MixtureTurns.l0 k1 (wrap64 (1 + t477)) t479 t481 (Int.tmod (wrap64 (a1)) (wrap64 (1 + t477))) (x11_1 ++ [(⟨(⟨(rd_T54 t481 x44_1).f0.f0, (rd_T54 t481 x44_1).f0.f1⟩ : S43), (⟨(rd_T54 t481 x44_1).f1.f0, (rd_T54 t481 x44_1).f1.f1, y505⟩ : S50), (⟨(rd_T54 t481 x44_1).f2.f0, (rd_T54 t481 x44_1).f2.f1, (rd_T54 t481 x44_1).f2.f2, (rd_T54 t481 x44_1).f2.f3⟩ : S52)⟩ : S54)]) t481 (t481.length : Int) (wrap64 (x44_1 + 1)) t485 t486 t487) else (none)) = some r := by first | (rw [hy505]; with_reducible exact H) | (have H2_ := (Option.bind_some _ _).symm.trans H; rw [hy505]; with_reducible exact H2_) | (have H2_ := (Option.bind_some _ _).symm.trans H; with_reducible exact H2_) | with_reducible exact H | (rw [hy505]; exact H) | exact H
    have Ny505 := Aside0.mk hy505
    clear hy505
    by_cases c31 : x11_1.length < 1353245080339
    rotate_left
    ·rw [if_neg c31] at H
     exact absurd H (by simp)
    rw [if_pos c31] at H
    have LMc31 := Aside0.mk c31
    clear c31
    obtain ⟨y508, hy508⟩ : ∃ y_ : List (S54), y_ = (x11_1 ++ [(⟨(⟨(rd_T54 t481 x44_1).f0.f0, (rd_T54 t481 x44_1).f0.f1⟩ : S43), (⟨(rd_T54 t481 x44_1).f1.f0, (rd_T54 t481 x44_1).f1.f1, y505⟩ : S50), (⟨(rd_T54 t481 x44_1).f2.f0, (rd_T54 t481 x44_1).f2.f1, (rd_T54 t481 x44_1).f2.f2, (rd_T54 t481 x44_1).f2.f3⟩ : S52)⟩ : S54)]) := ⟨_, rfl⟩
    replace H : (soundservicelaw23_MixtureTurns.l0 k1 (wrap64 (1 + t477)) t479 t481 (Int.tmod (wrap64 (a1)) (wrap64 (1 + t477))) y508 t481 (t481.length : Int) (wrap64 (x44_1 + 1)) t485 t486 t487) = some r := by first | (rw [hy508]; with_reducible exact H) | (have H2_ := (Option.bind_some _ _).symm.trans H; rw [hy508]; with_reducible exact H2_) | (have H2_ := (Option.bind_some _ _).symm.trans H; with_reducible exact H2_) | with_reducible exact H | (rw [hy508]; exact H) | exact H
    have Ny508 := Aside0.mk hy508
    clear hy508
    have H' := Aside0.mk H
    clear H
    have p490 : 0 ≤ (x44_1 : Int) := zD
    have q490 : x44_1 < (t481.length : Int) := zD
    obtain ⟨ad490, A490_1, c490_1, A490_4, c490_4, e490, hx490_0, hx490_1, hx490_2, hx490_3, hx490_4, hx490_5, hx490_6, hx490_7, hx490_8, hl490_1, hi490_1, hl490_4, hi490_4⟩ := at_T54 (Kd.N_reads' HO_42.out).2.2 x44_1 p490 q490
    cases e490
    obtain ⟨ce490, hce490, hMe490, hcc490⟩ := Kd.N_get HO_42.out z54 x44_1 p490 (by first | exact q490 | exact zD | (have e_ := (Kd.N_reads' HO_42.out).1; omega))
    obtain ⟨ua490_1, uc490_1, ua490_4, uc490_4, rfl, ul490_1, ge490_1, ul490_4, ge490_4⟩ := k54_openF hMe490
    have hv490_1 := hcc490 1 _ rfl
    rw [add_field _ _ 1 (by omega)] at hv490_1
    replace hv490_1 := Option.some.inj (hv490_1.symm.trans hx490_1)
    injection hv490_1 with hva_ hvn_ hvc_
    rw [hva_] at ge490_1
    rw [hvc_] at ul490_1
    have HL490_1 := Aside0.mk (show Kd.V (Kd.int .i32) 21 _ w.heap.size _ _ ((rd_T54 t481 x44_1).f0.f1) from Kd.V_mk ul490_1 ge490_1)
    clear hva_ hvn_ hvc_ ge490_1 ul490_1
    have hv490_4 := hcc490 4 _ rfl
    rw [add_field _ _ 4 (by omega)] at hv490_4
    replace hv490_4 := Option.some.inj (hv490_4.symm.trans hx490_4)
    injection hv490_4 with hva_ hvn_ hvc_
    rw [hva_] at ge490_4
    rw [hvc_] at ul490_4
    have HL490_4 := Aside0.mk (show Kd.V (Kd.int .i64) 3 _ w.heap.size _ _ ((rd_T54 t481 x44_1).f1.f2) from Kd.V_mk ul490_4 ge490_4)
    clear hva_ hvn_ hvc_ ge490_4 ul490_4
    clear hcc490 hce490
    have HR490_1 := Aside0.mk hi490_1
    have HC490_1 := Aside0.mk hl490_1
    clear hi490_1 hl490_1
    have HR490_4 := Aside0.mk hi490_4
    have HC490_4 := Aside0.mk hl490_4
    clear hi490_4 hl490_4
    replace p490 := eq_true p490
    replace q490 := eq_true q490
    try go_wp2_with (first | ((with_reducible refine gate_dst (N := 13) rfl ?_); (try (refine gate_guard (by rfl) ?_; dsimp only)); refine box_event ?hg (N := 13) ?hd (cs := #[.int .i64 0, .slice none 0 0, .int .i64 0, .int .i64 0, .slice none 0 0, .int .i64 0, .int .i64 0, .int .i64 0, .int .i64 0]) (t := 54) ?hr ?_; (case hd => rfl); (case hg => rfl); (case hr => first | (go_simp; done) | (go_simp; rfl)); intro gb491 hg w32 hbox hb; replace HO_8 := Aside0.mk (Kd.N_below (Kd.N_elderB (zN HO_8) gb491 (Nat.le_of_eq hg.symm)) hb); replace HO_11 := Aside0.mk (Kd.N_below (Kd.N_elderB (zN HO_11) gb491 (Nat.le_of_eq hg.symm)) hb); replace HO_42 := Aside0.mk (Kd.N_below (Kd.N_elderB (zN HO_42) gb491 (Nat.le_of_eq hg.symm)) hb); replace HL490_1 := Aside0.mk (Kd.V_below (Kd.V_elderB (zV HL490_1) gb491 (Nat.le_of_eq hg.symm)) hb); replace HL490_4 := Aside0.mk (Kd.V_below (Kd.V_elderB (zV HL490_4) gb491 (Nat.le_of_eq hg.symm)) hb); replace HR490_1 := Aside0.mk (Kd.C_below (zC HR490_1) hb); replace HR490_4 := Aside0.mk (Kd.C_below (zC HR490_4) hb); have BK491 := Aside0.mk (hbox); have GW491 := Aside0.mk (zS hg HB); have GE491 := Aside0.mk (zS hg HB); replace HB := Aside0.mk (below_step (zW HB) hb); have NB489_491 := Aside0.mk (zL hg BK489); have NB491_489 := Aside0.mk (zG hg BK489); replace BK489 := Aside0.mk (blk_below (zB BK489) hb); clear hb hbox hg; have hnb33 := NB491_489.out; have hnc33 := NB489_491.out; have hcz34_0 := zc BK491 0 (.int .i64 0) rfl; have hcz34_1 := zc BK491 1 (.slice none 0 0) rfl; have hcz34_2 := zc BK491 2 (.int .i64 0) rfl; have hcz34_3 := zc BK491 3 (.int .i64 0) rfl; have hcz34_4 := zc BK491 4 (.slice none 0 0) rfl; have hcz34_5 := zc BK491 5 (.int .i64 0) rfl; have hcz34_6 := zc BK491 6 (.int .i64 0) rfl; have hcz34_7 := zc BK491 7 (.int .i64 0) rfl; have hcz34_8 := zc BK491 8 (.int .i64 0) rfl; have hfz34_0 := blk_frozen BK491.out 0; have hfz34_1 := blk_frozen BK491.out 1; have hfz34_2 := blk_frozen BK491.out 2; have hfz34_3 := blk_frozen BK491.out 3; have hfz34_4 := blk_frozen BK491.out 4; have hfz34_5 := blk_frozen BK491.out 5; have hfz34_6 := blk_frozen BK491.out 6; have hfz34_7 := blk_frozen BK491.out 7; have hfz34_8 := blk_frozen BK491.out 8))
    have n0_ : Aside0 (Kd.N k54 54 (((((((((w32.setCell ⟨gb491, 0, none⟩ (.int .i64 ((rd_T54 t481 x44_1).f0.f0))).setCell ⟨gb491, 1, none⟩ (.slice A490_1 ((rd_T54 t481 x44_1).f0.f1).length c490_1)).setCell ⟨gb491, 2, none⟩ (.int .i64 ((rd_T54 t481 x44_1).f1.f0))).setCell ⟨gb491, 3, none⟩ (.int .i64 ((rd_T54 t481 x44_1).f1.f1))).setCell ⟨gb491, 4, none⟩ (.slice A490_4 ((rd_T54 t481 x44_1).f1.f2).length c490_4)).setCell ⟨gb491, 5, none⟩ (.int .i64 ((rd_T54 t481 x44_1).f2.f0))).setCell ⟨gb491, 6, none⟩ (.int .i64 ((rd_T54 t481 x44_1).f2.f1))).setCell ⟨gb491, 7, none⟩ (.int .i64 ((rd_T54 t481 x44_1).f2.f2))).setCell ⟨gb491, 8, none⟩ (.int .i64 ((rd_T54 t481 x44_1).f2.f3))) w.heap.size (fun k_ => some k_ ≠ (u11 : Value).ownBlock ∧ k_ ≠ gb489 ∧ k_ ≠ gb491) (.slice (some ad490) t481.length co20) t481) := ⟨by (with_reducible repeat (first | apply Kd.N_alloc | apply Kd.N_drewN | apply Kd.N_drew)); exact Kd.N_mono (Kd.N_far (p := ⟨gb491, 8, none⟩) (Kd.N_far (p := ⟨gb491, 7, none⟩) (Kd.N_far (p := ⟨gb491, 6, none⟩) (Kd.N_far (p := ⟨gb491, 5, none⟩) (Kd.N_far (p := ⟨gb491, 4, none⟩) (Kd.N_far (p := ⟨gb491, 3, none⟩) (Kd.N_far (p := ⟨gb491, 2, none⟩) (Kd.N_far (p := ⟨gb491, 1, none⟩) (Kd.N_far (p := ⟨gb491, 0, none⟩) (Kd.N_mono HO_8.out (fun k_ hk => (⟨hk, hk.2⟩ : _ ∧ k_ ≠ gb491))) (fun _ hk => hk.2) (.int .i64 ((rd_T54 t481 x44_1).f0.f0))) (fun _ hk => hk.2) (.slice A490_1 ((rd_T54 t481 x44_1).f0.f1).length c490_1)) (fun _ hk => hk.2) (.int .i64 ((rd_T54 t481 x44_1).f1.f0))) (fun _ hk => hk.2) (.int .i64 ((rd_T54 t481 x44_1).f1.f1))) (fun _ hk => hk.2) (.slice A490_4 ((rd_T54 t481 x44_1).f1.f2).length c490_4)) (fun _ hk => hk.2) (.int .i64 ((rd_T54 t481 x44_1).f2.f0))) (fun _ hk => hk.2) (.int .i64 ((rd_T54 t481 x44_1).f2.f1))) (fun _ hk => hk.2) (.int .i64 ((rd_T54 t481 x44_1).f2.f2))) (fun _ hk => hk.2) (.int .i64 ((rd_T54 t481 x44_1).f2.f3))) (fun _ hk => ⟨hk.1.1.1, ⟨hk.1.1.2, hk.1.2⟩⟩)⟩
    have n1_ : Aside0 (Kd.N k54 54 (((((((((w32.setCell ⟨gb491, 0, none⟩ (.int .i64 ((rd_T54 t481 x44_1).f0.f0))).setCell ⟨gb491, 1, none⟩ (.slice A490_1 ((rd_T54 t481 x44_1).f0.f1).length c490_1)).setCell ⟨gb491, 2, none⟩ (.int .i64 ((rd_T54 t481 x44_1).f1.f0))).setCell ⟨gb491, 3, none⟩ (.int .i64 ((rd_T54 t481 x44_1).f1.f1))).setCell ⟨gb491, 4, none⟩ (.slice A490_4 ((rd_T54 t481 x44_1).f1.f2).length c490_4)).setCell ⟨gb491, 5, none⟩ (.int .i64 ((rd_T54 t481 x44_1).f2.f0))).setCell ⟨gb491, 6, none⟩ (.int .i64 ((rd_T54 t481 x44_1).f2.f1))).setCell ⟨gb491, 7, none⟩ (.int .i64 ((rd_T54 t481 x44_1).f2.f2))).setCell ⟨gb491, 8, none⟩ (.int .i64 ((rd_T54 t481 x44_1).f2.f3))) w.heap.size (fun k_ => some k_ ≠ (.slice (some ad490) t481.length co20 : Value).ownBlock ∧ k_ ≠ gb489 ∧ k_ ≠ gb491) u11 x11_1) := ⟨by (with_reducible repeat (first | apply Kd.N_alloc | apply Kd.N_drewN | apply Kd.N_drew)); exact Kd.N_mono (Kd.N_far (p := ⟨gb491, 8, none⟩) (Kd.N_far (p := ⟨gb491, 7, none⟩) (Kd.N_far (p := ⟨gb491, 6, none⟩) (Kd.N_far (p := ⟨gb491, 5, none⟩) (Kd.N_far (p := ⟨gb491, 4, none⟩) (Kd.N_far (p := ⟨gb491, 3, none⟩) (Kd.N_far (p := ⟨gb491, 2, none⟩) (Kd.N_far (p := ⟨gb491, 1, none⟩) (Kd.N_far (p := ⟨gb491, 0, none⟩) (Kd.N_mono HO_11.out (fun k_ hk => (⟨hk, hk.2⟩ : _ ∧ k_ ≠ gb491))) (fun _ hk => hk.2) (.int .i64 ((rd_T54 t481 x44_1).f0.f0))) (fun _ hk => hk.2) (.slice A490_1 ((rd_T54 t481 x44_1).f0.f1).length c490_1)) (fun _ hk => hk.2) (.int .i64 ((rd_T54 t481 x44_1).f1.f0))) (fun _ hk => hk.2) (.int .i64 ((rd_T54 t481 x44_1).f1.f1))) (fun _ hk => hk.2) (.slice A490_4 ((rd_T54 t481 x44_1).f1.f2).length c490_4)) (fun _ hk => hk.2) (.int .i64 ((rd_T54 t481 x44_1).f2.f0))) (fun _ hk => hk.2) (.int .i64 ((rd_T54 t481 x44_1).f2.f1))) (fun _ hk => hk.2) (.int .i64 ((rd_T54 t481 x44_1).f2.f2))) (fun _ hk => hk.2) (.int .i64 ((rd_T54 t481 x44_1).f2.f3))) (fun _ hk => ⟨hk.1.1.1, ⟨hk.1.1.2, hk.1.2⟩⟩)⟩
    have n2_ : Aside0 (Kd.N k54 54 (((((((((w32.setCell ⟨gb491, 0, none⟩ (.int .i64 ((rd_T54 t481 x44_1).f0.f0))).setCell ⟨gb491, 1, none⟩ (.slice A490_1 ((rd_T54 t481 x44_1).f0.f1).length c490_1)).setCell ⟨gb491, 2, none⟩ (.int .i64 ((rd_T54 t481 x44_1).f1.f0))).setCell ⟨gb491, 3, none⟩ (.int .i64 ((rd_T54 t481 x44_1).f1.f1))).setCell ⟨gb491, 4, none⟩ (.slice A490_4 ((rd_T54 t481 x44_1).f1.f2).length c490_4)).setCell ⟨gb491, 5, none⟩ (.int .i64 ((rd_T54 t481 x44_1).f2.f0))).setCell ⟨gb491, 6, none⟩ (.int .i64 ((rd_T54 t481 x44_1).f2.f1))).setCell ⟨gb491, 7, none⟩ (.int .i64 ((rd_T54 t481 x44_1).f2.f2))).setCell ⟨gb491, 8, none⟩ (.int .i64 ((rd_T54 t481 x44_1).f2.f3))) w.heap.size (fun k_ => some k_ ≠ (u11 : Value).ownBlock ∧ k_ ≠ gb489 ∧ k_ ≠ gb491) (.slice (some ad490) t481.length co20) t481) := ⟨by (with_reducible repeat (first | apply Kd.N_alloc | apply Kd.N_drewN | apply Kd.N_drew)); exact Kd.N_mono (Kd.N_far (p := ⟨gb491, 8, none⟩) (Kd.N_far (p := ⟨gb491, 7, none⟩) (Kd.N_far (p := ⟨gb491, 6, none⟩) (Kd.N_far (p := ⟨gb491, 5, none⟩) (Kd.N_far (p := ⟨gb491, 4, none⟩) (Kd.N_far (p := ⟨gb491, 3, none⟩) (Kd.N_far (p := ⟨gb491, 2, none⟩) (Kd.N_far (p := ⟨gb491, 1, none⟩) (Kd.N_far (p := ⟨gb491, 0, none⟩) (Kd.N_mono HO_42.out (fun k_ hk => (⟨hk, hk.2⟩ : _ ∧ k_ ≠ gb491))) (fun _ hk => hk.2) (.int .i64 ((rd_T54 t481 x44_1).f0.f0))) (fun _ hk => hk.2) (.slice A490_1 ((rd_T54 t481 x44_1).f0.f1).length c490_1)) (fun _ hk => hk.2) (.int .i64 ((rd_T54 t481 x44_1).f1.f0))) (fun _ hk => hk.2) (.int .i64 ((rd_T54 t481 x44_1).f1.f1))) (fun _ hk => hk.2) (.slice A490_4 ((rd_T54 t481 x44_1).f1.f2).length c490_4)) (fun _ hk => hk.2) (.int .i64 ((rd_T54 t481 x44_1).f2.f0))) (fun _ hk => hk.2) (.int .i64 ((rd_T54 t481 x44_1).f2.f1))) (fun _ hk => hk.2) (.int .i64 ((rd_T54 t481 x44_1).f2.f2))) (fun _ hk => hk.2) (.int .i64 ((rd_T54 t481 x44_1).f2.f3))) (fun _ hk => ⟨hk.1.1.1, ⟨hk.1.1.2, hk.1.2⟩⟩)⟩
    have n3_ : Aside0 (Kd.V (Kd.int .i32) 21 (((((((((w32.setCell ⟨gb491, 0, none⟩ (.int .i64 ((rd_T54 t481 x44_1).f0.f0))).setCell ⟨gb491, 1, none⟩ (.slice A490_1 ((rd_T54 t481 x44_1).f0.f1).length c490_1)).setCell ⟨gb491, 2, none⟩ (.int .i64 ((rd_T54 t481 x44_1).f1.f0))).setCell ⟨gb491, 3, none⟩ (.int .i64 ((rd_T54 t481 x44_1).f1.f1))).setCell ⟨gb491, 4, none⟩ (.slice A490_4 ((rd_T54 t481 x44_1).f1.f2).length c490_4)).setCell ⟨gb491, 5, none⟩ (.int .i64 ((rd_T54 t481 x44_1).f2.f0))).setCell ⟨gb491, 6, none⟩ (.int .i64 ((rd_T54 t481 x44_1).f2.f1))).setCell ⟨gb491, 7, none⟩ (.int .i64 ((rd_T54 t481 x44_1).f2.f2))).setCell ⟨gb491, 8, none⟩ (.int .i64 ((rd_T54 t481 x44_1).f2.f3))) w.heap.size (fun k_ => some k_ ≠ (u11 : Value).ownBlock ∧ some k_ ≠ (.slice (some ad490) t481.length co20 : Value).ownBlock ∧ k_ ≠ gb489 ∧ k_ ≠ gb491) (.slice A490_1 ((rd_T54 t481 x44_1).f0.f1).length c490_1) ((rd_T54 t481 x44_1).f0.f1)) := ⟨by (with_reducible repeat (first | apply Kd.V_alloc | apply Kd.V_drewN | apply Kd.V_drew)); exact Kd.V_mono (Kd.V_far (p := ⟨gb491, 8, none⟩) (Kd.V_far (p := ⟨gb491, 7, none⟩) (Kd.V_far (p := ⟨gb491, 6, none⟩) (Kd.V_far (p := ⟨gb491, 5, none⟩) (Kd.V_far (p := ⟨gb491, 4, none⟩) (Kd.V_far (p := ⟨gb491, 3, none⟩) (Kd.V_far (p := ⟨gb491, 2, none⟩) (Kd.V_far (p := ⟨gb491, 1, none⟩) (Kd.V_far (p := ⟨gb491, 0, none⟩) (Kd.V_mono HL490_1.out (fun k_ hk => (⟨hk, hk.2⟩ : _ ∧ k_ ≠ gb491))) (fun _ hk => hk.2) (.int .i64 ((rd_T54 t481 x44_1).f0.f0))) (fun _ hk => hk.2) (.slice A490_1 ((rd_T54 t481 x44_1).f0.f1).length c490_1)) (fun _ hk => hk.2) (.int .i64 ((rd_T54 t481 x44_1).f1.f0))) (fun _ hk => hk.2) (.int .i64 ((rd_T54 t481 x44_1).f1.f1))) (fun _ hk => hk.2) (.slice A490_4 ((rd_T54 t481 x44_1).f1.f2).length c490_4)) (fun _ hk => hk.2) (.int .i64 ((rd_T54 t481 x44_1).f2.f0))) (fun _ hk => hk.2) (.int .i64 ((rd_T54 t481 x44_1).f2.f1))) (fun _ hk => hk.2) (.int .i64 ((rd_T54 t481 x44_1).f2.f2))) (fun _ hk => hk.2) (.int .i64 ((rd_T54 t481 x44_1).f2.f3))) (fun _ hk => ⟨hk.1.1.1.1, ⟨hk.1.1.2, ⟨hk.1.1.1.2, hk.1.2⟩⟩⟩)⟩
    have n4_ : Aside0 (Kd.V (Kd.int .i64) 3 (((((((((w32.setCell ⟨gb491, 0, none⟩ (.int .i64 ((rd_T54 t481 x44_1).f0.f0))).setCell ⟨gb491, 1, none⟩ (.slice A490_1 ((rd_T54 t481 x44_1).f0.f1).length c490_1)).setCell ⟨gb491, 2, none⟩ (.int .i64 ((rd_T54 t481 x44_1).f1.f0))).setCell ⟨gb491, 3, none⟩ (.int .i64 ((rd_T54 t481 x44_1).f1.f1))).setCell ⟨gb491, 4, none⟩ (.slice A490_4 ((rd_T54 t481 x44_1).f1.f2).length c490_4)).setCell ⟨gb491, 5, none⟩ (.int .i64 ((rd_T54 t481 x44_1).f2.f0))).setCell ⟨gb491, 6, none⟩ (.int .i64 ((rd_T54 t481 x44_1).f2.f1))).setCell ⟨gb491, 7, none⟩ (.int .i64 ((rd_T54 t481 x44_1).f2.f2))).setCell ⟨gb491, 8, none⟩ (.int .i64 ((rd_T54 t481 x44_1).f2.f3))) w.heap.size (fun k_ => some k_ ≠ (u11 : Value).ownBlock ∧ some k_ ≠ (.slice (some ad490) t481.length co20 : Value).ownBlock ∧ k_ ≠ gb489 ∧ k_ ≠ gb491) (.slice A490_4 ((rd_T54 t481 x44_1).f1.f2).length c490_4) ((rd_T54 t481 x44_1).f1.f2)) := ⟨by (with_reducible repeat (first | apply Kd.V_alloc | apply Kd.V_drewN | apply Kd.V_drew)); exact Kd.V_mono (Kd.V_far (p := ⟨gb491, 8, none⟩) (Kd.V_far (p := ⟨gb491, 7, none⟩) (Kd.V_far (p := ⟨gb491, 6, none⟩) (Kd.V_far (p := ⟨gb491, 5, none⟩) (Kd.V_far (p := ⟨gb491, 4, none⟩) (Kd.V_far (p := ⟨gb491, 3, none⟩) (Kd.V_far (p := ⟨gb491, 2, none⟩) (Kd.V_far (p := ⟨gb491, 1, none⟩) (Kd.V_far (p := ⟨gb491, 0, none⟩) (Kd.V_mono HL490_4.out (fun k_ hk => (⟨hk, hk.2⟩ : _ ∧ k_ ≠ gb491))) (fun _ hk => hk.2) (.int .i64 ((rd_T54 t481 x44_1).f0.f0))) (fun _ hk => hk.2) (.slice A490_1 ((rd_T54 t481 x44_1).f0.f1).length c490_1)) (fun _ hk => hk.2) (.int .i64 ((rd_T54 t481 x44_1).f1.f0))) (fun _ hk => hk.2) (.int .i64 ((rd_T54 t481 x44_1).f1.f1))) (fun _ hk => hk.2) (.slice A490_4 ((rd_T54 t481 x44_1).f1.f2).length c490_4)) (fun _ hk => hk.2) (.int .i64 ((rd_T54 t481 x44_1).f2.f0))) (fun _ hk => hk.2) (.int .i64 ((rd_T54 t481 x44_1).f2.f1))) (fun _ hk => hk.2) (.int .i64 ((rd_T54 t481 x44_1).f2.f2))) (fun _ hk => hk.2) (.int .i64 ((rd_T54 t481 x44_1).f2.f3))) (fun _ hk => ⟨hk.1.1.1.1, ⟨hk.1.1.2, ⟨hk.1.1.1.2, hk.1.2⟩⟩⟩)⟩
    have n5_ : Aside0 ((((((((((w32.setCell ⟨gb491, 0, none⟩ (.int .i64 ((rd_T54 t481 x44_1).f0.f0))).setCell ⟨gb491, 1, none⟩ (.slice A490_1 ((rd_T54 t481 x44_1).f0.f1).length c490_1)).setCell ⟨gb491, 2, none⟩ (.int .i64 ((rd_T54 t481 x44_1).f1.f0))).setCell ⟨gb491, 3, none⟩ (.int .i64 ((rd_T54 t481 x44_1).f1.f1))).setCell ⟨gb491, 4, none⟩ (.slice A490_4 ((rd_T54 t481 x44_1).f1.f2).length c490_4)).setCell ⟨gb491, 5, none⟩ (.int .i64 ((rd_T54 t481 x44_1).f2.f0))).setCell ⟨gb491, 6, none⟩ (.int .i64 ((rd_T54 t481 x44_1).f2.f1))).setCell ⟨gb491, 7, none⟩ (.int .i64 ((rd_T54 t481 x44_1).f2.f2))).setCell ⟨gb491, 8, none⟩ (.int .i64 ((rd_T54 t481 x44_1).f2.f3))).heap[gb489]? = some (.cells #[.int .i64 t485, .int .i64 t486, .int .i64 t487] 24 (0, 0))) := ⟨zB BK489⟩
    have n6_ : Aside0 ((((((((((w32.setCell ⟨gb491, 0, none⟩ (.int .i64 ((rd_T54 t481 x44_1).f0.f0))).setCell ⟨gb491, 1, none⟩ (.slice A490_1 ((rd_T54 t481 x44_1).f0.f1).length c490_1)).setCell ⟨gb491, 2, none⟩ (.int .i64 ((rd_T54 t481 x44_1).f1.f0))).setCell ⟨gb491, 3, none⟩ (.int .i64 ((rd_T54 t481 x44_1).f1.f1))).setCell ⟨gb491, 4, none⟩ (.slice A490_4 ((rd_T54 t481 x44_1).f1.f2).length c490_4)).setCell ⟨gb491, 5, none⟩ (.int .i64 ((rd_T54 t481 x44_1).f2.f0))).setCell ⟨gb491, 6, none⟩ (.int .i64 ((rd_T54 t481 x44_1).f2.f1))).setCell ⟨gb491, 7, none⟩ (.int .i64 ((rd_T54 t481 x44_1).f2.f2))).setCell ⟨gb491, 8, none⟩ (.int .i64 ((rd_T54 t481 x44_1).f2.f3))).heap[gb491]? = some (.cells #[.int .i64 ((rd_T54 t481 x44_1).f0.f0), .slice A490_1 ((rd_T54 t481 x44_1).f0.f1).length c490_1, .int .i64 ((rd_T54 t481 x44_1).f1.f0), .int .i64 ((rd_T54 t481 x44_1).f1.f1), .slice A490_4 ((rd_T54 t481 x44_1).f1.f2).length c490_4, .int .i64 ((rd_T54 t481 x44_1).f2.f0), .int .i64 ((rd_T54 t481 x44_1).f2.f1), .int .i64 ((rd_T54 t481 x44_1).f2.f2), .int .i64 ((rd_T54 t481 x44_1).f2.f3)] 54 (0, 0))) := ⟨zB BK491⟩
    have n7_ : Aside0 (Below w.heap.size w (((((((((w32.setCell ⟨gb491, 0, none⟩ (.int .i64 ((rd_T54 t481 x44_1).f0.f0))).setCell ⟨gb491, 1, none⟩ (.slice A490_1 ((rd_T54 t481 x44_1).f0.f1).length c490_1)).setCell ⟨gb491, 2, none⟩ (.int .i64 ((rd_T54 t481 x44_1).f1.f0))).setCell ⟨gb491, 3, none⟩ (.int .i64 ((rd_T54 t481 x44_1).f1.f1))).setCell ⟨gb491, 4, none⟩ (.slice A490_4 ((rd_T54 t481 x44_1).f1.f2).length c490_4)).setCell ⟨gb491, 5, none⟩ (.int .i64 ((rd_T54 t481 x44_1).f2.f0))).setCell ⟨gb491, 6, none⟩ (.int .i64 ((rd_T54 t481 x44_1).f2.f1))).setCell ⟨gb491, 7, none⟩ (.int .i64 ((rd_T54 t481 x44_1).f2.f2))).setCell ⟨gb491, 8, none⟩ (.int .i64 ((rd_T54 t481 x44_1).f2.f3)))) := ⟨zW HB⟩
    (try clear HO_8)
    (try clear HO_11)
    (try clear HO_42)
    (try clear HL490_1)
    (try clear HL490_4)
    (try clear BK489)
    (try clear BK491)
    (try clear HB)
    generalize (((((((((w32.setCell ⟨gb491, 0, none⟩ (.int .i64 ((rd_T54 t481 x44_1).f0.f0))).setCell ⟨gb491, 1, none⟩ (.slice A490_1 ((rd_T54 t481 x44_1).f0.f1).length c490_1)).setCell ⟨gb491, 2, none⟩ (.int .i64 ((rd_T54 t481 x44_1).f1.f0))).setCell ⟨gb491, 3, none⟩ (.int .i64 ((rd_T54 t481 x44_1).f1.f1))).setCell ⟨gb491, 4, none⟩ (.slice A490_4 ((rd_T54 t481 x44_1).f1.f2).length c490_4)).setCell ⟨gb491, 5, none⟩ (.int .i64 ((rd_T54 t481 x44_1).f2.f0))).setCell ⟨gb491, 6, none⟩ (.int .i64 ((rd_T54 t481 x44_1).f2.f1))).setCell ⟨gb491, 7, none⟩ (.int .i64 ((rd_T54 t481 x44_1).f2.f2))).setCell ⟨gb491, 8, none⟩ (.int .i64 ((rd_T54 t481 x44_1).f2.f3))) = w35 at n0_ n1_ n2_ n3_ n4_ n5_ n6_ n7_ ⊢
    have HO_8 := n0_
    have HO_11 := n1_
    have HO_42 := n2_
    have HL490_1 := n3_
    have HL490_4 := n4_
    have BK489 := n5_
    have BK491 := n6_
    have HB := n7_
    clear n0_ n1_ n2_ n3_ n4_ n5_ n6_ n7_
    have n0_ := Aside0.mk (Kd.N_drew HO_8.out)
    have n1_ := Aside0.mk (Kd.N_drew HO_11.out)
    have n2_ := Aside0.mk (Kd.N_drew HO_42.out)
    have n3_ := Aside0.mk (Kd.V_drew HL490_1.out)
    have n4_ := Aside0.mk (Kd.V_drew HL490_4.out)
    have n5_ := Aside0.mk (blk_drew BK489.out)
    have n6_ := Aside0.mk (blk_drew BK491.out)
    have n7_ := Aside0.mk (below_drew1 HB.out)
    clear HO_8
    clear HO_11
    clear HO_42
    clear HL490_1
    clear HL490_4
    clear BK489
    clear BK491
    clear HB
    have HO_8 := n0_
    have HO_11 := n1_
    have HO_42 := n2_
    have HL490_1 := n3_
    have HL490_4 := n4_
    have BK489 := n5_
    have BK491 := n6_
    have HB := n7_
    clear n0_ n1_ n2_ n3_ n4_ n5_ n6_ n7_
    have q37 : ((ji24) : Int) ≤ ((((rd_T54 t481 x44_1).f1.f2).length : Int) : Int) := zD
    obtain ⟨i037, hi037, _, hsz37, _⟩ := info_parts info3
    have hroom37 : ((rd_T54 t481 x44_1).f1.f2).length ≤ c490_4 := HC490_4.out
    have hC37 : Kd.F (Kd.int .i64) _ _ A490_4 ((rd_T54 t481 x44_1).f1.f2).length ((rd_T54 t481 x44_1).f1.f2) := (Kd.V_at (base := w.heap.size) HL490_4.out).2.2
    have q037 : (0 : Int) ≤ ((ji24) : Int) := zD
    have hcut37 := cut_from (P := Try.prog) 48 3 .i64 Try.underlying48 hi037 1 hsz37 A490_4 ((rd_T54 t481 x44_1).f1.f2).length c490_4 (ji24) q037 q37
    have hr37 := Kd.F_cut (m := ((ji24) : Int).toNat) (c := c490_4) hC37 (by omega) hroom37
    obtain ⟨A37, hA37⟩ : ∃ A1, A1 = (if c490_4 = ((ji24) : Int).toNat then A490_4 else (A490_4 : Option Addr).map (·.add (((ji24) : Int).toNat * 1))) := ⟨_, rfl⟩
    obtain ⟨c37, hc37⟩ : ∃ c1, c1 = c490_4 - ((ji24) : Int).toNat := ⟨_, rfl⟩
    have hy37 : y492.length = ((rd_T54 t481 x44_1).f1.f2).length - ((ji24) : Int).toNat := (by rw [Ny492.out, List.length_drop] <;> omega)
    rw [show ((rd_T54 t481 x44_1).f1.f2).drop ((ji24) : Int).toNat = y492 from Ny492.out.symm] at hr37
    replace hr37 : Kd.F (Kd.int .i64) _ _ A37 y492.length y492 := (by rw [hA37]; exact hr37)
    rw [← hy37, ← hA37, ← hc37] at hcut37
    have HO496 := Aside0.mk (show Kd.V (Kd.int .i64) 3 _ w.heap.size _ (.slice A37 y492.length c37) y492 from Kd.V_mk (by rw [hy37, hc37]; first | exact Nat.le_refl _ | exact Nat.sub_le_sub_right hroom37 _) hr37)
    have HC496 := Aside0.mk (show y492.length ≤ c37 from by rw [hy37, hc37]; first | exact Nat.le_refl _ | exact Nat.sub_le_sub_right hroom37 _)
    clear hr37 hC37 hroom37 hi037 hsz37 hc37
    have KY37 := Aside0.mk hy37
    have KA37 := Aside0.mk hA37
    clear hy37 hA37
    replace q37 := eq_true q37
    have q38 : ((ji24) : Int) ≤ ((((rd_T54 t481 x44_1).f1.f2).length : Int) : Int) := zD
    obtain ⟨i038, hi038, _, hsz38, _⟩ := info_parts info3
    have hroom38 : ((rd_T54 t481 x44_1).f1.f2).length ≤ c490_4 := HC490_4.out
    have hC38 : Kd.F (Kd.int .i64) _ _ A490_4 ((rd_T54 t481 x44_1).f1.f2).length ((rd_T54 t481 x44_1).f1.f2) := (Kd.V_at (base := w.heap.size) HL490_4.out).2.2
    have hcut38 := cut_to (P := Try.prog) 48 3 .i64 Try.underlying48 hi038 A490_4 ((rd_T54 t481 x44_1).f1.f2).length c490_4 (ji24) (zD) q38 hroom38
    have hr38 := Kd.F_take (m := ((ji24) : Int).toNat) hC38 (by omega)
    have hy38 : y500.length = ((ji24) : Int).toNat := (by rw [Ny500.out, List.length_take]; omega)
    rw [← Ny500.out] at hr38
    rw [← hy38] at hcut38
    have HO504 := Aside0.mk (show Kd.V (Kd.int .i64) 3 _ w.heap.size _ (.slice A490_4 y500.length c490_4) y500 from Kd.V_mk (by omega) hr38)
    have HC504 := Aside0.mk (show y500.length ≤ c490_4 from by omega)
    clear hr38 hC38 hroom38 hi038 hsz38
    have KY38 := Aside0.mk hy38
    clear hy38
    replace q38 := eq_true q38
    refine start_ (n := 19) (S := fun w' => w'.cell? ⟨gb491, 0, none⟩ = some (.int .i64 ((rd_T54 t481 x44_1).f0.f0)) ∧ w'.cell? ⟨gb491, 1, none⟩ = some (.slice A490_1 ((rd_T54 t481 x44_1).f0.f1).length c490_1) ∧ w'.cell? ⟨gb491, 2, none⟩ = some (.int .i64 ((rd_T54 t481 x44_1).f1.f0)) ∧ w'.cell? ⟨gb491, 3, none⟩ = some (.int .i64 ((rd_T54 t481 x44_1).f1.f1)) ∧ w'.cell? ⟨gb491, 4, none⟩ = some (.slice A490_4 ((rd_T54 t481 x44_1).f1.f2).length c490_4) ∧ w'.cell? ⟨gb491, 5, none⟩ = some (.int .i64 ((rd_T54 t481 x44_1).f2.f0)) ∧ w'.cell? ⟨gb491, 6, none⟩ = some (.int .i64 ((rd_T54 t481 x44_1).f2.f1)) ∧ w'.cell? ⟨gb491, 7, none⟩ = some (.int .i64 ((rd_T54 t481 x44_1).f2.f2)) ∧ w'.cell? ⟨gb491, 8, none⟩ = some (.int .i64 ((rd_T54 t481 x44_1).f2.f3))) (ds := [18]) #[false, false, false, false, false, false, false, false, false, false, false, false, false, false, false, false, false, false, false] zk rfl rfl ⟨(blk_cell BK491.out 0).trans rfl, (blk_cell BK491.out 1).trans rfl, (blk_cell BK491.out 2).trans rfl, (blk_cell BK491.out 3).trans rfl, (blk_cell BK491.out 4).trans rfl, (blk_cell BK491.out 5).trans rfl, (blk_cell BK491.out 6).trans rfl, (blk_cell BK491.out 7).trans rfl, (blk_cell BK491.out 8).trans rfl⟩ (fun hHeld => ?_); refine with_tabW soundservicelaw23_MixtureTurns.tab12 soundservicelaw23_MixtureTurns.bits12 (fun HT_ HW_ => ?_)
    generalize w35.drew = w36 at HO_8 HO_11 HO_42 HL490_1 HL490_4 BK489 BK491 HB HO496 HO504 hHeld ⊢
    refine pure_ (i := 0) (N := some 51) (v := ?_) (a' := ?_) #[true, false, false, false, false, false, false, false, false, false, false, false, false, false, false, false, false, false, false] rfl rfl (any_of HT_.out zk) (fun _ _ _ h => h) (Or.inl ⟨by rfl, ?_⟩) ?_ ?_
    rotate_left
    ·intro w'
     go_simp
     with_reducible rfl
    rotate_left
    ·simp only [Act.put, List.setIfInBounds_toArray, List.set_cons_zero, List.set_cons_succ, i64_w, i32_w]
     rfl
    refine pure_ (i := 1) (N := some 52) (v := ?_) (a' := ?_) #[true, true, false, false, false, false, false, false, false, false, false, false, false, false, false, false, false, false, false] rfl rfl (any_of HT_.out zk) (fun _ _ _ h => h) (Or.inl ⟨by rfl, ?_⟩) ?_ ?_
    rotate_left
    ·intro w'
     go_simp
     with_reducible rfl
    rotate_left
    ·simp only [Act.put, List.setIfInBounds_toArray, List.set_cons_zero, List.set_cons_succ, i64_w, i32_w]
     rfl
    refine pure_ (i := 3) (N := some 54) (v := ?_) (a' := ?_) #[true, true, false, true, false, false, false, false, false, false, false, false, false, false, false, false, false, false, false] rfl rfl (any_of HT_.out zk) (fun _ _ _ h => h) (Or.inl ⟨by rfl, ?_⟩) ?_ ?_
    rotate_left
    ·intro w'
     go_simp
     with_reducible rfl
    rotate_left
    ·simp only [Act.put, List.setIfInBounds_toArray, List.set_cons_zero, List.set_cons_succ, i64_w, i32_w]
     rfl
    refine pure_ (i := 4) (N := some 55) (v := ?_) (a' := ?_) #[true, true, false, true, true, false, false, false, false, false, false, false, false, false, false, false, false, false, false] rfl rfl (any_of HT_.out zk) (fun _ _ _ h => h) (Or.inl ⟨by rfl, ?_⟩) ?_ ?_
    rotate_left
    ·intro w'
     go_simp
     with_reducible rfl
    rotate_left
    ·simp only [Act.put, List.setIfInBounds_toArray, List.set_cons_zero, List.set_cons_succ, i64_w, i32_w]
     rfl
    refine pure_ (i := 5) (N := some 56) (v := ?_) (a' := ?_) #[true, true, false, true, true, true, false, false, false, false, false, false, false, false, false, false, false, false, false] rfl rfl (any_of HT_.out zk) (fun _ _ _ h => h) (Or.inl ⟨by rfl, ?_⟩) ?_ ?_
    rotate_left
    ·intro w'
     go_simp
     with_reducible rfl
    rotate_left
    ·simp only [Act.put, List.setIfInBounds_toArray, List.set_cons_zero, List.set_cons_succ, i64_w, i32_w]
     rfl
    refine pure_ (i := 8) (N := some 59) (v := ?_) (a' := ?_) #[true, true, false, true, true, true, false, false, true, false, false, false, false, false, false, false, false, false, false] rfl rfl (any_of HT_.out zk) (fun _ _ _ h => h) (Or.inl ⟨by rfl, ?_⟩) ?_ ?_
    rotate_left
    ·intro w'
     go_simp
     with_reducible rfl
    rotate_left
    ·simp only [Act.put, List.setIfInBounds_toArray, List.set_cons_zero, List.set_cons_succ, i64_w, i32_w]
     rfl
    refine pure_ (i := 9) (N := some 60) (v := ?_) (a' := ?_) #[true, true, false, true, true, true, false, false, true, true, false, false, false, false, false, false, false, false, false] rfl rfl (any_of HT_.out zk) (fun _ _ _ h => h) (Or.inl ⟨by rfl, ?_⟩) ?_ ?_
    rotate_left
    ·intro w'
     go_simp
     with_reducible rfl
    rotate_left
    ·simp only [Act.put, List.setIfInBounds_toArray, List.set_cons_zero, List.set_cons_succ, i64_w, i32_w]
     rfl
    refine pure_ (i := 11) (N := some 62) (v := ?_) (a' := ?_) #[true, true, false, true, true, true, false, false, true, true, false, true, false, false, false, false, false, false, false] rfl rfl (any_of HT_.out zk) (fun _ _ _ h => h) (Or.inl ⟨by rfl, ?_⟩) ?_ ?_
    rotate_left
    ·intro w'
     go_simp
     with_reducible rfl
    rotate_left
    ·simp only [Act.put, List.setIfInBounds_toArray, List.set_cons_zero, List.set_cons_succ, i64_w, i32_w]
     rfl
    refine pure_ (i := 12) (N := some 63) (v := ?_) (a' := ?_) #[true, true, false, true, true, true, false, false, true, true, false, true, true, false, false, false, false, false, false] rfl rfl (any_of HT_.out zk) (fun _ _ _ h => h) (Or.inl ⟨by rfl, ?_⟩) ?_ ?_
    rotate_left
    ·intro w'
     go_simp
     with_reducible rfl
    rotate_left
    ·simp only [Act.put, List.setIfInBounds_toArray, List.set_cons_zero, List.set_cons_succ, i64_w, i32_w]
     rfl
    refine pure_ (i := 13) (N := some 64) (v := ?_) (a' := ?_) #[true, true, false, true, true, true, false, false, true, true, false, true, true, true, false, false, false, false, false] rfl rfl (any_of HT_.out zk) (fun _ _ _ h => h) (Or.inl ⟨by rfl, ?_⟩) ?_ ?_
    rotate_left
    ·intro w'
     go_simp
     with_reducible rfl
    rotate_left
    ·simp only [Act.put, List.setIfInBounds_toArray, List.set_cons_zero, List.set_cons_succ, i64_w, i32_w]
     rfl
    refine take_ (i := 2) (N := some 53) (v := ?_) (a' := ?_) #[true, true, true, true, true, true, false, false, true, true, false, true, true, true, false, false, false, false, false] rfl rfl (take_ofW HT_.out HW_.out zk) (fun _ _ _ h => h) (Or.inl ⟨by rfl, ?_⟩) hHeld ?_ ?_
    rotate_left
    ·rintro w' ⟨s0, s1, s2, s3, s4, s5, s6, s7, s8⟩
     go_simp
     with_reducible rfl
    rotate_left
    ·simp only [Act.put, List.setIfInBounds_toArray, List.set_cons_zero, List.set_cons_succ, i64_w, i32_w]
     rfl
    refine pure_ (i := 6) (N := some 57) (v := ?_) (a' := ?_) #[true, true, true, true, true, true, true, false, true, true, false, true, true, true, false, false, false, false, false] rfl rfl (any_of HT_.out zk) (fun _ _ _ h => h) (Or.inl ⟨by rfl, ?_⟩) ?_ ?_
    rotate_left
    ·intro w'
     go_simp
     with_reducible rfl
    rotate_left
    ·simp only [Act.put, List.setIfInBounds_toArray, List.set_cons_zero, List.set_cons_succ, i64_w, i32_w]
     rfl
    refine take_ (i := 10) (N := some 61) (v := ?_) (a' := ?_) #[true, true, true, true, true, true, true, false, true, true, true, true, true, true, false, false, false, false, false] rfl rfl (take_ofW HT_.out HW_.out zk) (fun _ _ _ h => h) (Or.inl ⟨by rfl, ?_⟩) hHeld ?_ ?_
    rotate_left
    ·rintro w' ⟨s0, s1, s2, s3, s4, s5, s6, s7, s8⟩
     go_simp
     with_reducible rfl
    rotate_left
    ·simp only [Act.put, List.setIfInBounds_toArray, List.set_cons_zero, List.set_cons_succ, i64_w, i32_w]
     rfl
    refine pure_ (i := 14) (N := some 65) (v := ?_) (a' := ?_) #[true, true, true, true, true, true, true, false, true, true, true, true, true, true, true, false, false, false, false] rfl rfl (any_of HT_.out zk) (fun _ _ _ h => h) (Or.inl ⟨by rfl, ?_⟩) ?_ ?_
    rotate_left
    ·intro w'
     go_simp
     with_reducible rfl
    rotate_left
    ·simp only [Act.put, List.setIfInBounds_toArray, List.set_cons_zero, List.set_cons_succ, i64_w, i32_w]
     rfl
    refine one_ (i := 7) (N := some 58) #[true, true, true, true, true, true, true, true, true, true, true, true, true, true, true, false, false, false, false] rfl rfl (one_of HT_.out zk) (by decide) (fun K hK => ?_)
    refine Kd.R_append_rows_step (Kd.int .i64) (w0 := w) w.heap.size rfl (.const (.slice none 0 0)) (.tmp 57) 48 3 (.int .i64 0) 8 rfl Try.underlying48 info3 rfl (by decide) (by omega) (.slice none 0 0) ([] : List Int) y492 _ _ _ (fun _ => True) (fun _ => False) rfl rfl ?aO ?aR (fun _ _ h => h) (fun _ h => h.elim) ?aF ?aB ?aS ?aL ?_
    (case aR => repeat (first | exact (Kd.V_reads' HO496.out).2.2 | (with_reducible refine Kd.C_alloc ?_ _) | (with_reducible refine Kd.C_drewN ?_ _) | (with_reducible refine Kd.C_drew ?_)))
    (case aB => exact (zW HB))
    (case aF => exact (fun _ _ => trivial))
    (case aO => exact ((Kd.R_nil _ _ _ _ (fun _ => True))))
    (case aS => exact (below_size (zW HB)))
    (case aL => have := LMc27.out; omega)
    intro v498 w39 ho hb hg hat
    rw [← Ny497.out] at ho
    have n0_ := Aside0.mk (Kd.N_afterv (Kd.N_apart_nil (zN HO_8)) hg hat)
    have n1_ := Aside0.mk (Kd.N_afterv (Kd.N_apart_nil (zN HO_11)) hg hat)
    have n2_ := Aside0.mk (Kd.N_afterv (Kd.N_apart_nil (zN HO_42)) hg hat)
    have n3_ := Aside0.mk (blk_grown (zB BK489) hg (by simp [Value.ownBlock]))
    have n4_ := Aside0.mk (Kd.V_afterv (Kd.V_apart_nil (zV HL490_1)) hg hat)
    have n5_ := Aside0.mk (Kd.V_afterv (Kd.V_apart_nil (zV HL490_4)) hg hat)
    have n6_ := Aside0.mk (blk_grown (zB BK491) hg (by simp [Value.ownBlock]))
    have n7_ := Aside0.mk (Kd.V_afterv (Kd.V_apart_nil (zV HO496)) hg hat)
    have n8_ := Aside0.mk (Kd.V_afterv (Kd.V_apart_nil (zV HO504)) hg hat)
    have n9_ := Aside0.mk (hb)
    have n10_ := Aside0.mk (ho)
    clear HO_8
    clear HO_11
    clear HO_42
    clear BK489
    clear HL490_1
    clear HL490_4
    clear BK491
    clear HO496
    clear HO504
    clear HB
    have HO_8 := n0_
    have HO_11 := n1_
    have HO_42 := n2_
    have BK489 := n3_
    have HL490_1 := n4_
    have HL490_4 := n5_
    have BK491 := n6_
    have HO496 := n7_
    have HO504 := n8_
    have HB := n9_
    have HO499 := n10_
    clear n0_ n1_ n2_ n3_ n4_ n5_ n6_ n7_ n8_ n9_ n10_
    clear ho hb hg hat
    refine hK.out _ _ ⟨(blk_cell BK491.out 0).trans rfl, (blk_cell BK491.out 1).trans rfl, (blk_cell BK491.out 2).trans rfl, (blk_cell BK491.out 3).trans rfl, (blk_cell BK491.out 4).trans rfl, (blk_cell BK491.out 5).trans rfl, (blk_cell BK491.out 6).trans rfl, (blk_cell BK491.out 7).trans rfl, (blk_cell BK491.out 8).trans rfl⟩ (fun hHeld => ?_)
    clear hK K
    refine norm_ (a' := ?_) ?_ ?_
    rotate_left
    ·show Act.put _ (some 58) _ = _
     simp only [Act.put, List.setIfInBounds_toArray, List.set_cons_zero, List.set_cons_succ, i64_w, i32_w]
     rfl
    refine one_ (i := 15) (N := some 66) #[true, true, true, true, true, true, true, true, true, true, true, true, true, true, true, true, false, false, false] rfl rfl (one_of HT_.out zk) (by decide) (fun K hK => ?_)
    refine Kd.R_append_rows_step (Kd.int .i64) (w0 := w) w.heap.size (by rfl) (.tmp 58) (.tmp 65) 48 3 (.int .i64 0) 8 rfl Try.underlying48 info3 rfl (by decide) (by omega) v498 y497 y500 _ _ _ (fun _ => True) (fun _ => False) rfl rfl ?aO ?aR (fun _ _ h => h) (fun _ h => h.elim) ?aF ?aB ?aS ?aL ?_
    (case aR => repeat (first | exact (Kd.V_reads' HO504.out).2.2 | (with_reducible refine Kd.C_alloc ?_ _) | (with_reducible refine Kd.C_drewN ?_ _) | (with_reducible refine Kd.C_drew ?_)))
    (case aB => exact (zW HB))
    (case aF => exact (fun _ _ => trivial))
    (case aO => exact (zR HO499))
    (case aS => exact (below_size (zW HB)))
    (case aL => have := LMc30.out; omega)
    intro v506 w40 ho hb hg hat
    rw [← Ny505.out] at ho
    have n0_ := Aside0.mk (Kd.N_afterv (ok := (fun k_ => some k_ ≠ (u11 : Value).ownBlock ∧ k_ ≠ gb489 ∧ k_ ≠ gb491)) (zN HO_8) hg hat)
    have n1_ := Aside0.mk (Kd.N_afterv (ok := (fun k_ => some k_ ≠ (.slice (some ad490) t481.length co20 : Value).ownBlock ∧ k_ ≠ gb489 ∧ k_ ≠ gb491)) (zN HO_11) hg hat)
    have n2_ := Aside0.mk (Kd.N_afterv (ok := (fun k_ => some k_ ≠ (u11 : Value).ownBlock ∧ k_ ≠ gb489 ∧ k_ ≠ gb491)) (zN HO_42) hg hat)
    have n3_ := Aside0.mk (blk_grown (zB BK489) hg (Kd.R_ne HO499.out BK489.out (by decide)))
    have n4_ := Aside0.mk (Kd.V_afterv (ok := (fun k_ => some k_ ≠ (u11 : Value).ownBlock ∧ some k_ ≠ (.slice (some ad490) t481.length co20 : Value).ownBlock ∧ k_ ≠ gb489 ∧ k_ ≠ gb491)) (zV HL490_1) hg hat)
    have n5_ := Aside0.mk (Kd.V_afterv (ok := (fun k_ => some k_ ≠ (u11 : Value).ownBlock ∧ some k_ ≠ (.slice (some ad490) t481.length co20 : Value).ownBlock ∧ k_ ≠ gb489 ∧ k_ ≠ gb491)) (zV HL490_4) hg hat)
    have n6_ := Aside0.mk (blk_grown (zB BK491) hg (Kd.R_ne HO499.out BK491.out (by decide)))
    have n7_ := Aside0.mk (Kd.V_afterv (ok := (fun k_ => some k_ ≠ (u11 : Value).ownBlock ∧ some k_ ≠ (.slice (some ad490) t481.length co20 : Value).ownBlock ∧ k_ ≠ gb489 ∧ k_ ≠ gb491)) (zV HO496) hg hat)
    have n8_ := Aside0.mk (Kd.V_afterv (ok := (fun k_ => some k_ ≠ (u11 : Value).ownBlock ∧ some k_ ≠ (.slice (some ad490) t481.length co20 : Value).ownBlock ∧ k_ ≠ gb489 ∧ k_ ≠ gb491)) (zV HO504) hg hat)
    have n9_ := Aside0.mk (hb)
    have n10_ := Aside0.mk (ho)
    clear HO_8
    clear HO_11
    clear HO_42
    clear BK489
    clear HL490_1
    clear HL490_4
    clear BK491
    clear HO496
    clear HO504
    clear HB
    clear HO499
    have HO_8 := n0_
    have HO_11 := n1_
    have HO_42 := n2_
    have BK489 := n3_
    have HL490_1 := n4_
    have HL490_4 := n5_
    have BK491 := n6_
    have HO496 := n7_
    have HO504 := n8_
    have HB := n9_
    have HO507 := n10_
    clear n0_ n1_ n2_ n3_ n4_ n5_ n6_ n7_ n8_ n9_ n10_
    clear ho hb hg hat
    obtain ⟨Ao41, co41, eo41⟩ := Kd.R_slice HO507.out
    (first | subst eo41 | (injection eo41 with f1_ f2_ f3_; have f4_ := f1_.symm; have f5_ := f3_.symm; clear f1_ f2_ f3_; subst f4_; subst f5_))
    refine hK.out _ _ ⟨(blk_cell BK491.out 0).trans rfl, (blk_cell BK491.out 1).trans rfl, (blk_cell BK491.out 2).trans rfl, (blk_cell BK491.out 3).trans rfl, (blk_cell BK491.out 4).trans rfl, (blk_cell BK491.out 5).trans rfl, (blk_cell BK491.out 6).trans rfl, (blk_cell BK491.out 7).trans rfl, (blk_cell BK491.out 8).trans rfl⟩ (fun hHeld => ?_)
    clear hK K
    refine norm_ (a' := ?_) ?_ ?_
    rotate_left
    ·show Act.put _ (some 66) _ = _
     simp only [Act.put, List.setIfInBounds_toArray, List.set_cons_zero, List.set_cons_succ, i64_w, i32_w]
     rfl
    refine pure_ (i := 16) (N := some 67) (v := ?_) (a' := ?_) #[true, true, true, true, true, true, true, true, true, true, true, true, true, true, true, true, true, false, false] rfl rfl (any_of HT_.out zk) (fun _ _ _ h => h) (Or.inl ⟨by rfl, ?_⟩) ?_ ?_
    rotate_left
    ·intro w'
     go_simp
     with_reducible rfl
    rotate_left
    ·simp only [Act.put, List.setIfInBounds_toArray, List.set_cons_zero, List.set_cons_succ, i64_w, i32_w]
     rfl
    refine pure_ (i := 17) (N := some 68) (v := ?_) (a' := ?_) #[true, true, true, true, true, true, true, true, true, true, true, true, true, true, true, true, true, true, false] rfl rfl (any_of HT_.out zk) (fun _ _ _ h => h) (Or.inl ⟨by rfl, ?_⟩) ?_ ?_
    rotate_left
    ·intro w'
     go_simp
     with_reducible rfl
    rotate_left
    ·simp only [Act.put, List.setIfInBounds_toArray, List.set_cons_zero, List.set_cons_succ, i64_w, i32_w]
     rfl
    refine last_ (i := 18) (N := none) #[true, true, true, true, true, true, true, true, true, true, true, true, true, true, true, true, true, true, true] rfl rfl (one_of HT_.out zk) (by decide) (fun K hK => ?_)
    have hs42 := zc BK491 4 (.slice A490_4 ((rd_T54 t481 x44_1).f1.f2).length c490_4) rfl
    have hfs42 := blk_frozen BK491.out 4
    have hns42_0 := NB489_491.out
    have hms42_0 := NB491_489.out
    refine skip_ (w1 := ?_) (by rfl) rfl ?_ ?_
    rotate_left
    ·go_simp
     rfl
    refine hK.out _ _ ?_
    clear hK K
    refine done_ (done_of HT_.out zk) ?_
    have n0_ : Aside0 (Kd.N k54 54 (w40.setCell ⟨gb491, 4, none⟩ (.slice Ao41 y505.length co41)) w.heap.size (fun k_ => some k_ ≠ (u11 : Value).ownBlock ∧ some k_ ≠ (.slice Ao41 y505.length co41 : Value).ownBlock ∧ k_ ≠ gb489 ∧ k_ ≠ gb491) (.slice (some ad490) t481.length co20) t481) := ⟨by (with_reducible repeat (first | apply Kd.N_alloc | apply Kd.N_drewN | apply Kd.N_drew)); exact Kd.N_mono (Kd.N_far (p := ⟨gb491, 4, none⟩) (Kd.N_mono HO_8.out (fun k_ hk => (⟨hk, hk.1.2.2⟩ : _ ∧ k_ ≠ gb491))) (fun _ hk => hk.2) (.slice Ao41 y505.length co41)) (fun _ hk => ⟨hk.1.1.1, ⟨hk.1.2, ⟨hk.1.1.2.1, hk.1.1.2.2⟩⟩⟩)⟩
    have n1_ : Aside0 (Kd.N k54 54 (w40.setCell ⟨gb491, 4, none⟩ (.slice Ao41 y505.length co41)) w.heap.size (fun k_ => some k_ ≠ (.slice (some ad490) t481.length co20 : Value).ownBlock ∧ some k_ ≠ (.slice Ao41 y505.length co41 : Value).ownBlock ∧ k_ ≠ gb489 ∧ k_ ≠ gb491) u11 x11_1) := ⟨by (with_reducible repeat (first | apply Kd.N_alloc | apply Kd.N_drewN | apply Kd.N_drew)); exact Kd.N_mono (Kd.N_far (p := ⟨gb491, 4, none⟩) (Kd.N_mono HO_11.out (fun k_ hk => (⟨hk, hk.1.2.2⟩ : _ ∧ k_ ≠ gb491))) (fun _ hk => hk.2) (.slice Ao41 y505.length co41)) (fun _ hk => ⟨hk.1.1.1, ⟨hk.1.2, ⟨hk.1.1.2.1, hk.1.1.2.2⟩⟩⟩)⟩
    have n2_ : Aside0 (Kd.N k54 54 (w40.setCell ⟨gb491, 4, none⟩ (.slice Ao41 y505.length co41)) w.heap.size (fun k_ => some k_ ≠ (u11 : Value).ownBlock ∧ some k_ ≠ (.slice Ao41 y505.length co41 : Value).ownBlock ∧ k_ ≠ gb489 ∧ k_ ≠ gb491) (.slice (some ad490) t481.length co20) t481) := ⟨by (with_reducible repeat (first | apply Kd.N_alloc | apply Kd.N_drewN | apply Kd.N_drew)); exact Kd.N_mono (Kd.N_far (p := ⟨gb491, 4, none⟩) (Kd.N_mono HO_42.out (fun k_ hk => (⟨hk, hk.1.2.2⟩ : _ ∧ k_ ≠ gb491))) (fun _ hk => hk.2) (.slice Ao41 y505.length co41)) (fun _ hk => ⟨hk.1.1.1, ⟨hk.1.2, ⟨hk.1.1.2.1, hk.1.1.2.2⟩⟩⟩)⟩
    have n3_ : Aside0 (Kd.V (Kd.int .i32) 21 (w40.setCell ⟨gb491, 4, none⟩ (.slice Ao41 y505.length co41)) w.heap.size (fun k_ => some k_ ≠ (u11 : Value).ownBlock ∧ some k_ ≠ (.slice (some ad490) t481.length co20 : Value).ownBlock ∧ some k_ ≠ (.slice Ao41 y505.length co41 : Value).ownBlock ∧ k_ ≠ gb489 ∧ k_ ≠ gb491) (.slice A490_1 ((rd_T54 t481 x44_1).f0.f1).length c490_1) ((rd_T54 t481 x44_1).f0.f1)) := ⟨by (with_reducible repeat (first | apply Kd.V_alloc | apply Kd.V_drewN | apply Kd.V_drew)); exact Kd.V_mono (Kd.V_far (p := ⟨gb491, 4, none⟩) (Kd.V_mono HL490_1.out (fun k_ hk => (⟨hk, hk.1.2.2.2⟩ : _ ∧ k_ ≠ gb491))) (fun _ hk => hk.2) (.slice Ao41 y505.length co41)) (fun _ hk => ⟨hk.1.1.1, ⟨hk.1.1.2.1, ⟨hk.1.2, ⟨hk.1.1.2.2.1, hk.1.1.2.2.2⟩⟩⟩⟩)⟩
    have n4_ : Aside0 (Kd.V (Kd.int .i64) 3 (w40.setCell ⟨gb491, 4, none⟩ (.slice Ao41 y505.length co41)) w.heap.size (fun k_ => some k_ ≠ (u11 : Value).ownBlock ∧ some k_ ≠ (.slice (some ad490) t481.length co20 : Value).ownBlock ∧ some k_ ≠ (.slice Ao41 y505.length co41 : Value).ownBlock ∧ k_ ≠ gb489 ∧ k_ ≠ gb491) (.slice A490_4 ((rd_T54 t481 x44_1).f1.f2).length c490_4) ((rd_T54 t481 x44_1).f1.f2)) := ⟨by (with_reducible repeat (first | apply Kd.V_alloc | apply Kd.V_drewN | apply Kd.V_drew)); exact Kd.V_mono (Kd.V_far (p := ⟨gb491, 4, none⟩) (Kd.V_mono HL490_4.out (fun k_ hk => (⟨hk, hk.1.2.2.2⟩ : _ ∧ k_ ≠ gb491))) (fun _ hk => hk.2) (.slice Ao41 y505.length co41)) (fun _ hk => ⟨hk.1.1.1, ⟨hk.1.1.2.1, ⟨hk.1.2, ⟨hk.1.1.2.2.1, hk.1.1.2.2.2⟩⟩⟩⟩)⟩
    have n5_ : Aside0 (Kd.V (Kd.int .i64) 3 (w40.setCell ⟨gb491, 4, none⟩ (.slice Ao41 y505.length co41)) w.heap.size (fun k_ => some k_ ≠ (u11 : Value).ownBlock ∧ some k_ ≠ (.slice (some ad490) t481.length co20 : Value).ownBlock ∧ some k_ ≠ (.slice Ao41 y505.length co41 : Value).ownBlock ∧ k_ ≠ gb489 ∧ k_ ≠ gb491) (.slice A37 y492.length c37) y492) := ⟨by (with_reducible repeat (first | apply Kd.V_alloc | apply Kd.V_drewN | apply Kd.V_drew)); exact Kd.V_mono (Kd.V_far (p := ⟨gb491, 4, none⟩) (Kd.V_mono HO496.out (fun k_ hk => (⟨hk, hk.1.2.2.2⟩ : _ ∧ k_ ≠ gb491))) (fun _ hk => hk.2) (.slice Ao41 y505.length co41)) (fun _ hk => ⟨hk.1.1.1, ⟨hk.1.1.2.1, ⟨hk.1.2, ⟨hk.1.1.2.2.1, hk.1.1.2.2.2⟩⟩⟩⟩)⟩
    have n6_ : Aside0 (Kd.V (Kd.int .i64) 3 (w40.setCell ⟨gb491, 4, none⟩ (.slice Ao41 y505.length co41)) w.heap.size (fun k_ => some k_ ≠ (u11 : Value).ownBlock ∧ some k_ ≠ (.slice (some ad490) t481.length co20 : Value).ownBlock ∧ some k_ ≠ (.slice Ao41 y505.length co41 : Value).ownBlock ∧ k_ ≠ gb489 ∧ k_ ≠ gb491) (.slice A490_4 y500.length c490_4) y500) := ⟨by (with_reducible repeat (first | apply Kd.V_alloc | apply Kd.V_drewN | apply Kd.V_drew)); exact Kd.V_mono (Kd.V_far (p := ⟨gb491, 4, none⟩) (Kd.V_mono HO504.out (fun k_ hk => (⟨hk, hk.1.2.2.2⟩ : _ ∧ k_ ≠ gb491))) (fun _ hk => hk.2) (.slice Ao41 y505.length co41)) (fun _ hk => ⟨hk.1.1.1, ⟨hk.1.1.2.1, ⟨hk.1.2, ⟨hk.1.1.2.2.1, hk.1.1.2.2.2⟩⟩⟩⟩)⟩
    have n7_ : Aside0 (Kd.R (Kd.int .i64) 3 (w40.setCell ⟨gb491, 4, none⟩ (.slice Ao41 y505.length co41)) w.heap.size (fun _ => True) (.slice Ao41 y505.length co41) y505) := ⟨by (with_reducible repeat (first | apply Kd.R_alloc | apply Kd.R_drewN | apply Kd.R_drew)); exact Kd.R_mono (Kd.R_far (p := ⟨gb491, 4, none⟩) (Kd.R_types HO507.out BK491.out (by decide)) (fun _ hk => hk.2) (.slice Ao41 y505.length co41)) (fun _ hk => trivial)⟩
    have n8_ : Aside0 ((w40.setCell ⟨gb491, 4, none⟩ (.slice Ao41 y505.length co41)).heap[gb489]? = some (.cells #[.int .i64 t485, .int .i64 t486, .int .i64 t487] 24 (0, 0))) := ⟨zB BK489⟩
    have n9_ : Aside0 ((w40.setCell ⟨gb491, 4, none⟩ (.slice Ao41 y505.length co41)).heap[gb491]? = some (.cells #[.int .i64 ((rd_T54 t481 x44_1).f0.f0), .slice A490_1 ((rd_T54 t481 x44_1).f0.f1).length c490_1, .int .i64 ((rd_T54 t481 x44_1).f1.f0), .int .i64 ((rd_T54 t481 x44_1).f1.f1), .slice Ao41 y505.length co41, .int .i64 ((rd_T54 t481 x44_1).f2.f0), .int .i64 ((rd_T54 t481 x44_1).f2.f1), .int .i64 ((rd_T54 t481 x44_1).f2.f2), .int .i64 ((rd_T54 t481 x44_1).f2.f3)] 54 (0, 0))) := ⟨zB BK491⟩
    have n10_ : Aside0 (Below w.heap.size w (w40.setCell ⟨gb491, 4, none⟩ (.slice Ao41 y505.length co41))) := ⟨zW HB⟩
    (try clear HO_8)
    (try clear HO_11)
    (try clear HO_42)
    (try clear HL490_1)
    (try clear HL490_4)
    (try clear HO496)
    (try clear HO504)
    (try clear HO507)
    (try clear BK489)
    (try clear BK491)
    (try clear HB)
    generalize (w40.setCell ⟨gb491, 4, none⟩ (.slice Ao41 y505.length co41)) = w43 at n0_ n1_ n2_ n3_ n4_ n5_ n6_ n7_ n8_ n9_ n10_ ⊢
    have HO_8 := n0_
    have HO_11 := n1_
    have HO_42 := n2_
    have HL490_1 := n3_
    have HL490_4 := n4_
    have HO496 := n5_
    have HO504 := n6_
    have HO507 := n7_
    have BK489 := n8_
    have BK491 := n9_
    have HB := n10_
    clear n0_ n1_ n2_ n3_ n4_ n5_ n6_ n7_ n8_ n9_ n10_
    have hcz44_0 := zc BK491 0 (.int .i64 ((rd_T54 t481 x44_1).f0.f0)) rfl
    have hcz44_1 := zc BK491 1 (.slice A490_1 ((rd_T54 t481 x44_1).f0.f1).length c490_1) rfl
    have hcz44_2 := zc BK491 2 (.int .i64 ((rd_T54 t481 x44_1).f1.f0)) rfl
    have hcz44_3 := zc BK491 3 (.int .i64 ((rd_T54 t481 x44_1).f1.f1)) rfl
    have hcz44_4 := zc BK491 4 (.slice Ao41 y505.length co41) rfl
    have hcz44_5 := zc BK491 5 (.int .i64 ((rd_T54 t481 x44_1).f2.f0)) rfl
    have hcz44_6 := zc BK491 6 (.int .i64 ((rd_T54 t481 x44_1).f2.f1)) rfl
    have hcz44_7 := zc BK491 7 (.int .i64 ((rd_T54 t481 x44_1).f2.f2)) rfl
    have hcz44_8 := zc BK491 8 (.int .i64 ((rd_T54 t481 x44_1).f2.f3)) rfl
    have hfz44_0 := blk_frozen BK491.out 0
    have hfz44_1 := blk_frozen BK491.out 1
    have hfz44_2 := blk_frozen BK491.out 2
    have hfz44_3 := blk_frozen BK491.out 3
    have hfz44_4 := blk_frozen BK491.out 4
    have hfz44_5 := blk_frozen BK491.out 5
    have hfz44_6 := blk_frozen BK491.out 6
    have hfz44_7 := blk_frozen BK491.out 7
    have hfz44_8 := blk_frozen BK491.out 8
    try go_wp2_with (first | ((with_reducible refine gate_builtin (b := .append) (xs := #[.tmp 69, .tmp 71]) rfl ?_); (try (refine gate_guard (by rfl) ?_; dsimp only)); at_builtin; refine Kd.N_append k54 (w0 := w) w.heap.size rfl (.tmp 69) (.tmp 71) 22 54 (.agg #[(.int .i64 0), (.slice none 0 0), (.int .i64 0), (.int .i64 0), (.slice none 0 0), (.int .i64 0), (.int .i64 0), (.int .i64 0), (.int .i64 0)]) 104 rfl Try.underlying22 info54 rfl (by decide) (by omega) u11 x11_1 (⟨(⟨(rd_T54 t481 x44_1).f0.f0, (rd_T54 t481 x44_1).f0.f1⟩ : S43), (⟨(rd_T54 t481 x44_1).f1.f0, (rd_T54 t481 x44_1).f1.f1, y505⟩ : S50), (⟨(rd_T54 t481 x44_1).f2.f0, (rd_T54 t481 x44_1).f2.f1, (rd_T54 t481 x44_1).f2.f2, (rd_T54 t481 x44_1).f2.f3⟩ : S52)⟩ : S54) [.int .i64 ((rd_T54 t481 x44_1).f0.f0), .slice A490_1 ((rd_T54 t481 x44_1).f0.f1).length c490_1, .int .i64 ((rd_T54 t481 x44_1).f1.f0), .int .i64 ((rd_T54 t481 x44_1).f1.f1), .slice Ao41 y505.length co41, .int .i64 ((rd_T54 t481 x44_1).f2.f0), .int .i64 ((rd_T54 t481 x44_1).f2.f1), .int .i64 ((rd_T54 t481 x44_1).f2.f2), .int .i64 ((rd_T54 t481 x44_1).f2.f3)] (fun k_ => some k_ ≠ (.slice (some ad490) t481.length co20 : Value).ownBlock ∧ k_ ≠ gb489 ∧ k_ ≠ gb491) (fun k_ => ((fun k_ => some k_ ≠ (.slice (some ad490) t481.length co20 : Value).ownBlock ∧ k_ ≠ gb489 ∧ k_ ≠ gb491)) k_ ∧ some k_ ≠ (u11 : Value).ownBlock) rfl rfl ?aP (fun _ hk => hk) ?aF ?aO ?aB ?aS ?aL ?_; (case aP => exact (k54_mkF _ _ (⟨(⟨(rd_T54 t481 x44_1).f0.f0, (rd_T54 t481 x44_1).f0.f1⟩ : S43), (⟨(rd_T54 t481 x44_1).f1.f0, (rd_T54 t481 x44_1).f1.f1, y505⟩ : S50), (⟨(rd_T54 t481 x44_1).f2.f0, (rd_T54 t481 x44_1).f2.f1, (rd_T54 t481 x44_1).f2.f2, (rd_T54 t481 x44_1).f2.f3⟩ : S52)⟩ : S54) (Kd.V_reads' (Kd.V_mono (ok' := (fun k_ => ((fun k_ => some k_ ≠ (.slice (some ad490) t481.length co20 : Value).ownBlock ∧ k_ ≠ gb489 ∧ k_ ≠ gb491)) k_ ∧ some k_ ≠ (u11 : Value).ownBlock)) (HL490_1.out) (fun k_ hk => ⟨⟨hk.2.1, ⟨hk.2.2.2.1, hk.2.2.2.2⟩⟩, hk.1⟩))).2.1 (Kd.V_F (Kd.V_mono (ok' := (fun k_ => ((fun k_ => some k_ ≠ (.slice (some ad490) t481.length co20 : Value).ownBlock ∧ k_ ≠ gb489 ∧ k_ ≠ gb491)) k_ ∧ some k_ ≠ (u11 : Value).ownBlock)) (HL490_1.out) (fun k_ hk => ⟨⟨hk.2.1, ⟨hk.2.2.2.1, hk.2.2.2.2⟩⟩, hk.1⟩))) (Kd.R_reads' (Kd.R_mono (ok' := (fun k_ => ((fun k_ => some k_ ≠ (.slice (some ad490) t481.length co20 : Value).ownBlock ∧ k_ ≠ gb489 ∧ k_ ≠ gb491)) k_ ∧ some k_ ≠ (u11 : Value).ownBlock)) (Kd.R_types (Kd.R_types (Kd.R_apart' (Kd.R_apart' (HO507.out) (Kd.N_typed HO_42.out) (by decide)) (Kd.N_typed HO_11.out) (by decide)) BK489.out (by decide)) BK491.out (by decide)) (fun k_ hk => ⟨⟨hk.1.1.1.2, ⟨hk.1.2, hk.2⟩⟩, hk.1.1.2⟩))).2.1 (Kd.R_F (Kd.R_mono (ok' := (fun k_ => ((fun k_ => some k_ ≠ (.slice (some ad490) t481.length co20 : Value).ownBlock ∧ k_ ≠ gb489 ∧ k_ ≠ gb491)) k_ ∧ some k_ ≠ (u11 : Value).ownBlock)) (Kd.R_types (Kd.R_types (Kd.R_apart' (Kd.R_apart' (HO507.out) (Kd.N_typed HO_42.out) (by decide)) (Kd.N_typed HO_11.out) (by decide)) BK489.out (by decide)) BK491.out (by decide)) (fun k_ hk => ⟨⟨hk.1.1.1.2, ⟨hk.1.2, hk.2⟩⟩, hk.1.1.2⟩))))); (case aB => exact (zW HB)); (case aF => exact (fun k_ hk => ⟨Kd.fresh' (Kd.N_lt (zN HO_42)) k_ hk, Kd.freshB (g := gb489) (o := .cells #[.int .i64 t485, .int .i64 t486, .int .i64 t487] 24 (0, 0)) (zB BK489) k_ hk, Kd.freshB (g := gb491) (o := .cells #[.int .i64 ((rd_T54 t481 x44_1).f0.f0), .slice A490_1 ((rd_T54 t481 x44_1).f0.f1).length c490_1, .int .i64 ((rd_T54 t481 x44_1).f1.f0), .int .i64 ((rd_T54 t481 x44_1).f1.f1), .slice Ao41 y505.length co41, .int .i64 ((rd_T54 t481 x44_1).f2.f0), .int .i64 ((rd_T54 t481 x44_1).f2.f1), .int .i64 ((rd_T54 t481 x44_1).f2.f2), .int .i64 ((rd_T54 t481 x44_1).f2.f3)] 54 (0, 0)) (zB BK491) k_ hk⟩)); (case aO => exact (by (with_reducible repeat (first | apply Kd.N_alloc | apply Kd.N_drewN | apply Kd.N_drew)); exact Kd.N_mono HO_11.out (fun _ hk => ⟨hk.1, ⟨hk.2.2.1, hk.2.2.2⟩⟩))); (case aS => exact (below_size (zW HB))); (case aL => have := LMc31.out; omega); intro v509 w45 ho hb hg hat; rw [← Ny508.out] at ho; replace HO_8 := Aside0.mk (Kd.N_afterv (ok := (fun k_ => some k_ ≠ (.slice Ao41 y505.length co41 : Value).ownBlock ∧ k_ ≠ gb489 ∧ k_ ≠ gb491)) (by (with_reducible repeat (first | apply Kd.N_alloc | apply Kd.N_drewN | apply Kd.N_drew)); exact Kd.N_mono HO_8.out (fun _ hk => ⟨⟨hk.2.1, ⟨hk.2.2.1, hk.2.2.2⟩⟩, hk.1⟩)) hg hat); replace HO_42 := Aside0.mk (Kd.N_afterv (ok := (fun k_ => some k_ ≠ (.slice Ao41 y505.length co41 : Value).ownBlock ∧ k_ ≠ gb489 ∧ k_ ≠ gb491)) (by (with_reducible repeat (first | apply Kd.N_alloc | apply Kd.N_drewN | apply Kd.N_drew)); exact Kd.N_mono HO_42.out (fun _ hk => ⟨⟨hk.2.1, ⟨hk.2.2.1, hk.2.2.2⟩⟩, hk.1⟩)) hg hat); replace BK489 := Aside0.mk (blk_grown (zB BK489) hg (Kd.N_ne HO_11.out BK489.out (by decide))); replace HL490_1 := Aside0.mk (Kd.V_afterv (ok := (fun k_ => some k_ ≠ (.slice (some ad490) t481.length co20 : Value).ownBlock ∧ some k_ ≠ (.slice Ao41 y505.length co41 : Value).ownBlock ∧ k_ ≠ gb489 ∧ k_ ≠ gb491)) (by (with_reducible repeat (first | apply Kd.V_alloc | apply Kd.V_drewN | apply Kd.V_drew)); exact Kd.V_mono HL490_1.out (fun _ hk => ⟨⟨hk.2.1, ⟨hk.2.2.1, ⟨hk.2.2.2.1, hk.2.2.2.2⟩⟩⟩, hk.1⟩)) hg hat); replace HL490_4 := Aside0.mk (Kd.V_afterv (ok := (fun k_ => some k_ ≠ (.slice (some ad490) t481.length co20 : Value).ownBlock ∧ some k_ ≠ (.slice Ao41 y505.length co41 : Value).ownBlock ∧ k_ ≠ gb489 ∧ k_ ≠ gb491)) (by (with_reducible repeat (first | apply Kd.V_alloc | apply Kd.V_drewN | apply Kd.V_drew)); exact Kd.V_mono HL490_4.out (fun _ hk => ⟨⟨hk.2.1, ⟨hk.2.2.1, ⟨hk.2.2.2.1, hk.2.2.2.2⟩⟩⟩, hk.1⟩)) hg hat); replace BK491 := Aside0.mk (blk_grown (zB BK491) hg (Kd.N_away HO_11.out (fun _ hk => hk.2.2.2))); replace HO496 := Aside0.mk (Kd.V_afterv (ok := (fun k_ => some k_ ≠ (.slice (some ad490) t481.length co20 : Value).ownBlock ∧ some k_ ≠ (.slice Ao41 y505.length co41 : Value).ownBlock ∧ k_ ≠ gb489 ∧ k_ ≠ gb491)) (by (with_reducible repeat (first | apply Kd.V_alloc | apply Kd.V_drewN | apply Kd.V_drew)); exact Kd.V_mono HO496.out (fun _ hk => ⟨⟨hk.2.1, ⟨hk.2.2.1, ⟨hk.2.2.2.1, hk.2.2.2.2⟩⟩⟩, hk.1⟩)) hg hat); replace HO504 := Aside0.mk (Kd.V_afterv (ok := (fun k_ => some k_ ≠ (.slice (some ad490) t481.length co20 : Value).ownBlock ∧ some k_ ≠ (.slice Ao41 y505.length co41 : Value).ownBlock ∧ k_ ≠ gb489 ∧ k_ ≠ gb491)) (by (with_reducible repeat (first | apply Kd.V_alloc | apply Kd.V_drewN | apply Kd.V_drew)); exact Kd.V_mono HO504.out (fun _ hk => ⟨⟨hk.2.1, ⟨hk.2.2.1, ⟨hk.2.2.2.1, hk.2.2.2.2⟩⟩⟩, hk.1⟩)) hg hat); replace HB := Aside0.mk (hb); have HO510 := Aside0.mk (ho); clear HO_11; clear HO507; clear ho hb hg hat))
    go_roundg k1
    case measure => have := HK1.out; omega
    case rel => exact ⟨(y508), (wrap64 (x44_1 + 1)), zE, H', ⟨by have := HK1.out; omega⟩, ⟨by (with_reducible repeat (first | apply Kd.N_alloc | apply Kd.N_drewN | apply Kd.N_drew)); exact Kd.N_mono HO_8.out (fun _ hk => ⟨hk.2, hk.1.2.1⟩)⟩, ⟨by (with_reducible repeat (first | apply Kd.N_alloc | apply Kd.N_drewN | apply Kd.N_drew)); exact Kd.N_mono HO510.out (fun _ hk => ⟨hk.1, hk.2.1⟩)⟩, ⟨by (with_reducible repeat (first | apply Kd.N_alloc | apply Kd.N_drewN | apply Kd.N_drew)); exact Kd.N_mono HO_42.out (fun _ hk => ⟨hk.2, hk.1.2.1⟩)⟩, ⟨zB BK489⟩, ⟨zW HB⟩⟩
   rw [if_neg c21] at H
   have c21b0 : decide (x44_1 < (t481.length : Int)) = false := decide_eq_false c21
   clear c21
   replace H := Option.bind_eq_some_iff.mp H
   obtain ⟨⟨t511, t512, t515, t516, t517, t518⟩, A460, H⟩ := H
   replace H : ((mixture_Mix.f k1 (wrap64 (1 + t477)) t479 x11_1 t485 t486 t487).bind fun bt521 => (if t518 = 0 then (if bt521.2.2.2.2.2 = 0 then (if (!(t515 == bt521.2.2.1) || (!(t516 == bt521.2.2.2.1) || (!(t517 == bt521.2.2.2.2.1)))) = true then (soundservicelaw23_MixtureTurns.j1 k1 (wrap64 (1 + t477)) (Int.tmod (wrap64 (a1)) (wrap64 (1 + t477))) true t511 t512 bt521.1 bt521.2.1) else (if (t512.length : Int) = (wrap64 ((wrap64 (1 + t477)) * t479)) then (soundservicelaw23_MixtureTurns.j1 k1 (wrap64 (1 + t477)) (Int.tmod (wrap64 (a1)) (wrap64 (1 + t477))) ((bt521.2.1.length : Int) != (wrap64 ((wrap64 (1 + t477)) * t479))) t511 t512 bt521.1 bt521.2.1) else (soundservicelaw23_MixtureTurns.j1 k1 (wrap64 (1 + t477)) (Int.tmod (wrap64 (a1)) (wrap64 (1 + t477))) true t511 t512 bt521.1 bt521.2.1))) else (soundservicelaw23_MixtureTurns.j1 k1 (wrap64 (1 + t477)) (Int.tmod (wrap64 (a1)) (wrap64 (1 + t477))) true t511 t512 bt521.1 bt521.2.1)) else (soundservicelaw23_MixtureTurns.j1 k1 (wrap64 (1 + t477)) (Int.tmod (wrap64 (a1)) (wrap64 (1 + t477))) true t511 t512 bt521.1 bt521.2.1))) = some r := H
   have A46 := Aside0.mk A460
   clear A460
   replace H := Option.bind_eq_some_iff.mp H
   obtain ⟨⟨t521, t522, t525, t526, t527, t528⟩, A470, H⟩ := H
   replace H : (if t518 = 0 then (if t528 = 0 then (if (!(t515 == t525) || (!(t516 == t526) || (!(t517 == t527)))) = true then (soundservicelaw23_MixtureTurns.j1 k1 (wrap64 (1 + t477)) (Int.tmod (wrap64 (a1)) (wrap64 (1 + t477))) true t511 t512 t521 t522) else (if (t512.length : Int) = (wrap64 ((wrap64 (1 + t477)) * t479)) then (soundservicelaw23_MixtureTurns.j1 k1 (wrap64 (1 + t477)) (Int.tmod (wrap64 (a1)) (wrap64 (1 + t477))) ((t522.length : Int) != (wrap64 ((wrap64 (1 + t477)) * t479))) t511 t512 t521 t522) else (soundservicelaw23_MixtureTurns.j1 k1 (wrap64 (1 + t477)) (Int.tmod (wrap64 (a1)) (wrap64 (1 + t477))) true t511 t512 t521 t522))) else (soundservicelaw23_MixtureTurns.j1 k1 (wrap64 (1 + t477)) (Int.tmod (wrap64 (a1)) (wrap64 (1 + t477))) true t511 t512 t521 t522)) else (soundservicelaw23_MixtureTurns.j1 k1 (wrap64 (1 + t477)) (Int.tmod (wrap64 (a1)) (wrap64 (1 + t477))) true t511 t512 t521 t522)) = some r := H
   have A47 := Aside0.mk A470
   clear A470
   have HC48 := Aside0.mk H
   clear H
   have hcz49_0 := zc BK489 0 (.int .i64 t485) rfl
   have hcz49_1 := zc BK489 1 (.int .i64 t486) rfl
   have hcz49_2 := zc BK489 2 (.int .i64 t487) rfl
   have hfz49_0 := blk_frozen BK489.out 0
   have hfz49_1 := blk_frozen BK489.out 1
   have hfz49_2 := blk_frozen BK489.out 2
   go_upto_region 17 with (first | ((with_reducible refine gate_callee (f := 16) rfl ?_); refine goesL_ (some 79) rfl rfl Try.func16 zk rfl #[.int .i64 (wrap64 (1 + t477)), .int .i64 t479, .slice Ao20 t481.length co20, .agg #[.int .i64 t485, .int .i64 t486, .int .i64 t487]] rfl zA ?_; (with_reducible refine (mixture_Mix.calls k1 (wrap64 (1 + t477)) t479 _ _ t481 t485 t486 t487 t511 t512 t515 t516 t517 t518 _ ?side1 ?side2 A46.out).mono ?_); (case side1 => repeat (first | exact (Kd.N_reads' HO_8.out).2.2 | (with_reducible refine Kd.C_alloc ?_ _) | (with_reducible refine Kd.C_drewN ?_ _) | (with_reducible refine Kd.C_drew ?_))); (case side2 => exact (Kd.N_reads' HO_8.out).2.1); rintro e w50 ⟨v513, rfl, ho0, hb⟩; refine ⟨_, rfl, ?_⟩; replace HO_8 := Aside0.mk (Kd.N_elder' (zN HO_8) (Kd.R_base ho0) hb); replace HO_11 := Aside0.mk (Kd.N_elder' (zN HO_11) (Kd.R_base ho0) hb); replace HO_42 := Aside0.mk (Kd.N_elder' (zN HO_42) (Kd.R_base ho0) hb); have HO514 := Aside0.mk (Kd.R_lower ho0 (below_size (zW HB))); replace BK489 := Aside0.mk (blk_below (zB BK489) hb); replace HB := Aside0.mk (below_step (zW HB) hb); (try clear hb); (try clear ho0)) | ((with_reducible refine gate_dst (N := 15) rfl ?_); (try (refine gate_guard (by rfl) ?_; dsimp only)); refine box_event ?hg (N := 15) ?hd (cs := #[.int .i64 0, .slice none 0 0]) (t := 43) ?hr ?_; (case hd => rfl); (case hg => rfl); (case hr => first | (go_simp; done) | (go_simp; rfl)); intro gb519 hg w51 hbox hb; replace HO_8 := Aside0.mk (Kd.N_below (Kd.N_elderB (zN HO_8) gb519 (Nat.le_of_eq hg.symm)) hb); replace HO_11 := Aside0.mk (Kd.N_below (Kd.N_elderB (zN HO_11) gb519 (Nat.le_of_eq hg.symm)) hb); replace HO_42 := Aside0.mk (Kd.N_below (Kd.N_elderB (zN HO_42) gb519 (Nat.le_of_eq hg.symm)) hb); replace HO514 := Aside0.mk (Kd.R_below (zR HO514) hb); have BK519 := Aside0.mk (hbox); have GW519 := Aside0.mk (zS hg HB); have GE519 := Aside0.mk (zS hg HB); replace HB := Aside0.mk (below_step (zW HB) hb); have NB489_519 := Aside0.mk (zL hg BK489); have NB519_489 := Aside0.mk (zG hg BK489); replace BK489 := Aside0.mk (blk_below (zB BK489) hb); clear hb hbox hg) | ((with_reducible refine gate_dst (N := 16) rfl ?_); (try (refine gate_guard (by rfl) ?_; dsimp only)); refine box_event ?hg (N := 16) ?hd (cs := #[.int .i64 0, .int .i64 0, .int .i64 0]) (t := 24) ?hr ?_; (case hd => rfl); (case hg => rfl); (case hr => first | (go_simp; done) | (go_simp; rfl)); intro gb520 hg w52 hbox hb; replace HO_8 := Aside0.mk (Kd.N_below (Kd.N_elderB (zN HO_8) gb520 (Nat.le_of_eq hg.symm)) hb); replace HO_11 := Aside0.mk (Kd.N_below (Kd.N_elderB (zN HO_11) gb520 (Nat.le_of_eq hg.symm)) hb); replace HO_42 := Aside0.mk (Kd.N_below (Kd.N_elderB (zN HO_42) gb520 (Nat.le_of_eq hg.symm)) hb); replace HO514 := Aside0.mk (Kd.R_below (zR HO514) hb); have BK520 := Aside0.mk (hbox); have GW520 := Aside0.mk (zS hg HB); have GE520 := Aside0.mk (zS hg HB); replace HB := Aside0.mk (below_step (zW HB) hb); have NB489_520 := Aside0.mk (zL hg BK489); have NB520_489 := Aside0.mk (zG hg BK489); replace BK489 := Aside0.mk (blk_below (zB BK489) hb); have NB519_520 := Aside0.mk (zL hg BK519); have NB520_519 := Aside0.mk (zG hg BK519); replace BK519 := Aside0.mk (blk_below (zB BK519) hb); clear hb hbox hg; have hnb53 := NB519_489.out; have hnc53 := NB489_519.out; have hnb54 := NB519_520.out; have hnc54 := NB520_519.out; have hcz55_0 := zc BK519 0 (.int .i64 0) rfl; have hcz55_1 := zc BK519 1 (.slice none 0 0) rfl; have hfz55_0 := blk_frozen BK519.out 0; have hfz55_1 := blk_frozen BK519.out 1; obtain ⟨Ao56, co56, eo56⟩ := Kd.R_slice HO514.out; subst eo56; have hnb57 := NB520_489.out; have hnc57 := NB489_520.out; have hcz58_0 := zc BK520 0 (.int .i64 0) rfl; have hcz58_1 := zc BK520 1 (.int .i64 0) rfl; have hcz58_2 := zc BK520 2 (.int .i64 0) rfl; have hfz58_0 := blk_frozen BK520.out 0; have hfz58_1 := blk_frozen BK520.out 1; have hfz58_2 := blk_frozen BK520.out 2; have hcz59_0 := zc BK489 0 (.int .i64 t485) rfl; have hcz59_1 := zc BK489 1 (.int .i64 t486) rfl; have hcz59_2 := zc BK489 2 (.int .i64 t487) rfl; have hfz59_0 := blk_frozen BK489.out 0; have hfz59_1 := blk_frozen BK489.out 1; have hfz59_2 := blk_frozen BK489.out 2; obtain ⟨Ao60, co60, eo60⟩ := Kd.N_slice HO_11.out; subst eo60) | ((with_reducible refine gate_callee (f := 16) rfl ?_); refine goesL_ (some 88) rfl rfl Try.func16 zk rfl #[.int .i64 (wrap64 (1 + t477)), .int .i64 t479, .slice Ao60 x11_1.length co60, .agg #[.int .i64 t485, .int .i64 t486, .int .i64 t487]] rfl zA ?_; (with_reducible refine (mixture_Mix.calls k1 (wrap64 (1 + t477)) t479 _ _ x11_1 t485 t486 t487 t521 t522 t525 t526 t527 t528 _ ?side1 ?side2 A47.out).mono ?_); (case side1 => refine (Kd.N_reads' (e := 54) (base := w.heap.size) (ok := fun k_ => ((((some k_ ≠ (.slice Ao20 t481.length co20 : Value).ownBlock ∧ k_ ≠ gb489) ∧ some k_ ≠ (.slice Ao56 t512.length co56 : Value).ownBlock) ∧ k_ ≠ gb519) ∧ k_ ≠ gb520)) (n := x11_1.length) (c := co60) ?_).2.2; exact (by (with_reducible repeat (first | apply Kd.N_alloc | apply Kd.N_drewN | apply Kd.N_drew)); exact (Kd.N_mono (Kd.N_mono (Kd.N_far (p := ⟨gb520, 2, none⟩) (Kd.N_far (p := ⟨gb520, 1, none⟩) (Kd.N_far (p := ⟨gb520, 0, none⟩) (Kd.N_far (p := ⟨gb519, 1, none⟩) (Kd.N_far (p := ⟨gb519, 0, none⟩) (Kd.N_mono (Kd.N_mono HO_11.out (fun k_ hk => (⟨hk, hk.1.2⟩ : _ ∧ k_ ≠ gb519))) (fun k_ hk => (⟨hk, hk.1.2⟩ : _ ∧ k_ ≠ gb520))) (fun _ hk => hk.1.2) (.int .i64 t511)) (fun _ hk => hk.1.2) (.slice Ao56 t512.length co56)) (fun _ hk => hk.2) (.int .i64 t515)) (fun _ hk => hk.2) (.int .i64 t516)) (fun _ hk => hk.2) (.int .i64 t517)) (fun _ h_ => h_.1)) (fun _ h_ => h_.1)))); (case side2 => exact (Kd.N_reads' HO_11.out).2.1); rintro e w61 ⟨v523, rfl, ho0, hb⟩; refine ⟨_, rfl, ?_⟩; replace HO_8 := Aside0.mk (Kd.N_elder' (by (with_reducible repeat (first | apply Kd.N_alloc | apply Kd.N_drewN | apply Kd.N_drew)); exact (Kd.N_mono (Kd.N_mono (Kd.N_far (p := ⟨gb520, 2, none⟩) (Kd.N_far (p := ⟨gb520, 1, none⟩) (Kd.N_far (p := ⟨gb520, 0, none⟩) (Kd.N_far (p := ⟨gb519, 1, none⟩) (Kd.N_far (p := ⟨gb519, 0, none⟩) (Kd.N_mono (Kd.N_mono HO_8.out (fun k_ hk => (⟨hk, hk.1.2⟩ : _ ∧ k_ ≠ gb519))) (fun k_ hk => (⟨hk, hk.1.2⟩ : _ ∧ k_ ≠ gb520))) (fun _ hk => hk.1.2) (.int .i64 t511)) (fun _ hk => hk.1.2) (.slice Ao56 t512.length co56)) (fun _ hk => hk.2) (.int .i64 t515)) (fun _ hk => hk.2) (.int .i64 t516)) (fun _ hk => hk.2) (.int .i64 t517)) (fun _ h_ => h_.1)) (fun _ h_ => h_.1))) (Kd.R_base ho0) hb); replace HO_11 := Aside0.mk (Kd.N_elder' (by (with_reducible repeat (first | apply Kd.N_alloc | apply Kd.N_drewN | apply Kd.N_drew)); exact (Kd.N_mono (Kd.N_mono (Kd.N_far (p := ⟨gb520, 2, none⟩) (Kd.N_far (p := ⟨gb520, 1, none⟩) (Kd.N_far (p := ⟨gb520, 0, none⟩) (Kd.N_far (p := ⟨gb519, 1, none⟩) (Kd.N_far (p := ⟨gb519, 0, none⟩) (Kd.N_mono (Kd.N_mono HO_11.out (fun k_ hk => (⟨hk, hk.1.2⟩ : _ ∧ k_ ≠ gb519))) (fun k_ hk => (⟨hk, hk.1.2⟩ : _ ∧ k_ ≠ gb520))) (fun _ hk => hk.1.2) (.int .i64 t511)) (fun _ hk => hk.1.2) (.slice Ao56 t512.length co56)) (fun _ hk => hk.2) (.int .i64 t515)) (fun _ hk => hk.2) (.int .i64 t516)) (fun _ hk => hk.2) (.int .i64 t517)) (fun _ h_ => h_.1)) (fun _ h_ => h_.1))) (Kd.R_base ho0) hb); replace HO_42 := Aside0.mk (Kd.N_elder' (by (with_reducible repeat (first | apply Kd.N_alloc | apply Kd.N_drewN | apply Kd.N_drew)); exact (Kd.N_mono (Kd.N_mono (Kd.N_far (p := ⟨gb520, 2, none⟩) (Kd.N_far (p := ⟨gb520, 1, none⟩) (Kd.N_far (p := ⟨gb520, 0, none⟩) (Kd.N_far (p := ⟨gb519, 1, none⟩) (Kd.N_far (p := ⟨gb519, 0, none⟩) (Kd.N_mono (Kd.N_mono HO_42.out (fun k_ hk => (⟨hk, hk.1.2⟩ : _ ∧ k_ ≠ gb519))) (fun k_ hk => (⟨hk, hk.1.2⟩ : _ ∧ k_ ≠ gb520))) (fun _ hk => hk.1.2) (.int .i64 t511)) (fun _ hk => hk.1.2) (.slice Ao56 t512.length co56)) (fun _ hk => hk.2) (.int .i64 t515)) (fun _ hk => hk.2) (.int .i64 t516)) (fun _ hk => hk.2) (.int .i64 t517)) (fun _ h_ => h_.1)) (fun _ h_ => h_.1))) (Kd.R_base ho0) hb); have HO524 := Aside0.mk (Kd.R_lower (Kd.R_new' ho0 (Kd.R_lt (by (with_reducible repeat (first | apply Kd.R_alloc | apply Kd.R_drewN | apply Kd.R_drew)); exact (Kd.R_mono (Kd.R_mono (Kd.R_far (p := ⟨gb520, 2, none⟩) (Kd.R_far (p := ⟨gb520, 1, none⟩) (Kd.R_far (p := ⟨gb520, 0, none⟩) (Kd.R_far (p := ⟨gb519, 1, none⟩) (Kd.R_far (p := ⟨gb519, 0, none⟩) (Kd.R_types (Kd.R_types HO514.out BK519.out (by decide)) BK520.out (by decide)) (fun _ hk => hk.1.2) (.int .i64 t511)) (fun _ hk => hk.1.2) (.slice Ao56 t512.length co56)) (fun _ hk => hk.2) (.int .i64 t515)) (fun _ hk => hk.2) (.int .i64 t516)) (fun _ hk => hk.2) (.int .i64 t517)) (fun _ h_ => h_.1)) (fun _ h_ => h_.1))))) (below_size (zW HB))); replace HO514 := Aside0.mk (Kd.R_elder' (by (with_reducible repeat (first | apply Kd.R_alloc | apply Kd.R_drewN | apply Kd.R_drew)); exact (Kd.R_mono (Kd.R_mono (Kd.R_far (p := ⟨gb520, 2, none⟩) (Kd.R_far (p := ⟨gb520, 1, none⟩) (Kd.R_far (p := ⟨gb520, 0, none⟩) (Kd.R_far (p := ⟨gb519, 1, none⟩) (Kd.R_far (p := ⟨gb519, 0, none⟩) (Kd.R_types (Kd.R_types HO514.out BK519.out (by decide)) BK520.out (by decide)) (fun _ hk => hk.1.2) (.int .i64 t511)) (fun _ hk => hk.1.2) (.slice Ao56 t512.length co56)) (fun _ hk => hk.2) (.int .i64 t515)) (fun _ hk => hk.2) (.int .i64 t516)) (fun _ hk => hk.2) (.int .i64 t517)) (fun _ h_ => h_.1)) (fun _ h_ => h_.1))) (Kd.R_base ho0) hb); replace BK489 := Aside0.mk (blk_below (zB BK489) hb); replace BK519 := Aside0.mk (blk_below (g := gb519) (o := .cells #[.int .i64 t511, .slice Ao56 t512.length co56] 43 (0, 0)) (zB BK519) hb); replace BK520 := Aside0.mk (blk_below (g := gb520) (o := .cells #[.int .i64 t515, .int .i64 t516, .int .i64 t517] 24 (0, 0)) (zB BK520) hb); replace HB := Aside0.mk (below_step (zW HB) hb); (try clear hb); (try clear ho0)) | ((with_reducible refine gate_dst (N := 18) rfl ?_); (try (refine gate_guard (by rfl) ?_; dsimp only)); refine box_event ?hg (N := 18) ?hd (cs := #[.int .i64 0, .slice none 0 0]) (t := 43) ?hr ?_; (case hd => rfl); (case hg => rfl); (case hr => first | (go_simp; done) | (go_simp; rfl)); intro gb529 hg w62 hbox hb; replace HO_8 := Aside0.mk (Kd.N_below (Kd.N_elderB (zN HO_8) gb529 (Nat.le_of_eq hg.symm)) hb); replace HO_11 := Aside0.mk (Kd.N_below (Kd.N_elderB (zN HO_11) gb529 (Nat.le_of_eq hg.symm)) hb); replace HO_42 := Aside0.mk (Kd.N_below (Kd.N_elderB (zN HO_42) gb529 (Nat.le_of_eq hg.symm)) hb); replace HO514 := Aside0.mk (Kd.R_below (zR HO514) hb); replace HO524 := Aside0.mk (Kd.R_below (zR HO524) hb); have BK529 := Aside0.mk (hbox); have GW529 := Aside0.mk (zS hg HB); have GE529 := Aside0.mk (zS hg HB); replace HB := Aside0.mk (below_step (zW HB) hb); have NB489_529 := Aside0.mk (zL hg BK489); have NB529_489 := Aside0.mk (zG hg BK489); replace BK489 := Aside0.mk (blk_below (zB BK489) hb); have NB519_529 := Aside0.mk (zL hg BK519); have NB529_519 := Aside0.mk (zG hg BK519); replace BK519 := Aside0.mk (blk_below (zB BK519) hb); have NB520_529 := Aside0.mk (zL hg BK520); have NB529_520 := Aside0.mk (zG hg BK520); replace BK520 := Aside0.mk (blk_below (zB BK520) hb); clear hb hbox hg) | ((with_reducible refine gate_dst (N := 19) rfl ?_); (try (refine gate_guard (by rfl) ?_; dsimp only)); refine box_event ?hg (N := 19) ?hd (cs := #[.int .i64 0, .int .i64 0, .int .i64 0]) (t := 24) ?hr ?_; (case hd => rfl); (case hg => rfl); (case hr => first | (go_simp; done) | (go_simp; rfl)); intro gb530 hg w63 hbox hb; replace HO_8 := Aside0.mk (Kd.N_below (Kd.N_elderB (zN HO_8) gb530 (Nat.le_of_eq hg.symm)) hb); replace HO_11 := Aside0.mk (Kd.N_below (Kd.N_elderB (zN HO_11) gb530 (Nat.le_of_eq hg.symm)) hb); replace HO_42 := Aside0.mk (Kd.N_below (Kd.N_elderB (zN HO_42) gb530 (Nat.le_of_eq hg.symm)) hb); replace HO514 := Aside0.mk (Kd.R_below (zR HO514) hb); replace HO524 := Aside0.mk (Kd.R_below (zR HO524) hb); have BK530 := Aside0.mk (hbox); have GW530 := Aside0.mk (zS hg HB); have GE530 := Aside0.mk (zS hg HB); replace HB := Aside0.mk (below_step (zW HB) hb); have NB489_530 := Aside0.mk (zL hg BK489); have NB530_489 := Aside0.mk (zG hg BK489); replace BK489 := Aside0.mk (blk_below (zB BK489) hb); have NB519_530 := Aside0.mk (zL hg BK519); have NB530_519 := Aside0.mk (zG hg BK519); replace BK519 := Aside0.mk (blk_below (zB BK519) hb); have NB520_530 := Aside0.mk (zL hg BK520); have NB530_520 := Aside0.mk (zG hg BK520); replace BK520 := Aside0.mk (blk_below (zB BK520) hb); have NB529_530 := Aside0.mk (zL hg BK529); have NB530_529 := Aside0.mk (zG hg BK529); replace BK529 := Aside0.mk (blk_below (zB BK529) hb); clear hb hbox hg; have hnb64 := NB529_489.out; have hnc64 := NB489_529.out; have hnb65 := NB529_519.out; have hnc65 := NB519_529.out; have hnb66 := NB529_520.out; have hnc66 := NB520_529.out; have hnb67 := NB529_530.out; have hnc67 := NB530_529.out; have hcz68_0 := zc BK529 0 (.int .i64 0) rfl; have hcz68_1 := zc BK529 1 (.slice none 0 0) rfl; have hfz68_0 := blk_frozen BK529.out 0; have hfz68_1 := blk_frozen BK529.out 1; obtain ⟨Ao69, co69, eo69⟩ := Kd.R_slice HO524.out; subst eo69; have hnb70 := NB530_489.out; have hnc70 := NB489_530.out; have hnb71 := NB530_519.out; have hnc71 := NB519_530.out; have hnb72 := NB530_520.out; have hnc72 := NB520_530.out; have hcz73_0 := zc BK530 0 (.int .i64 0) rfl; have hcz73_1 := zc BK530 1 (.int .i64 0) rfl; have hcz73_2 := zc BK530 2 (.int .i64 0) rfl; have hfz73_0 := blk_frozen BK530.out 0; have hfz73_1 := blk_frozen BK530.out 1; have hfz73_2 := blk_frozen BK530.out 2))
   (try simp only [Act.put, List.setIfInBounds_toArray, List.set_cons_zero, List.set_cons_succ])
   go_cut [120] (fun v120 wc => ∃ (kq : Nat) (x120_47 : Bool), v120 = .bool x120_47 ∧ Aside0 (soundservicelaw23_MixtureTurns.j1 kq (wrap64 (1 + t477)) (Int.tmod (wrap64 (a1)) (wrap64 (1 + t477))) x120_47 t511 t512 t521 t522 = some r) ∧ Aside0 (kq ≤ k1) ∧ Aside0 (Kd.R (Kd.int .i32) 21 wc w.heap.size (fun k_ => some k_ ≠ ((.slice Ao69 t522.length co69) : Value).ownBlock) (.slice Ao56 t512.length co56) t512) ∧ Aside0 (Kd.R (Kd.int .i32) 21 wc w.heap.size (fun k_ => some k_ ≠ ((.slice Ao56 t512.length co56) : Value).ownBlock) (.slice Ao69 t522.length co69) t522) ∧ Aside0 (wc.heap[gb489]? = some (.cells #[.int .i64 t485, .int .i64 t486, .int .i64 t487] 24 (0, 0))) ∧ Aside0 (wc.heap[gb519]? = some (.cells #[.int .i64 t511, (.slice Ao56 t512.length co56)] 43 (0, 0))) ∧ Aside0 (wc.heap[gb520]? = some (.cells #[.int .i64 t515, .int .i64 t516, .int .i64 t517] 24 (0, 0))) ∧ Aside0 (wc.heap[gb529]? = some (.cells #[.int .i64 t521, (.slice Ao69 t522.length co69)] 43 (0, 0))) ∧ Aside0 (wc.heap[gb530]? = some (.cells #[.int .i64 t525, .int .i64 t526, .int .i64 t527] 24 (0, 0))) ∧ Aside0 (Below w.heap.size w wc))
   case first =>
    have H := HC48.out
    clear HC48
    by_cases c74 : t518 = 0
    rotate_left
    ·rw [if_neg c74] at H
     have c74b0 : (t518 == 0) = false := beq_eq_false_iff_ne.mpr c74
     have c74b1 : (t518 != 0) = true := bne_iff_ne.mpr c74
     (first | rw [c74b0] | (simp only [i64_w, i32_w]; rw [c74b0]) | skip)
     have H' := Aside0.mk H
     clear H
     go_wp2
     go_meet
     case rel => exact ⟨_, (true), zE, H', ⟨by have := HK1.out; first | omega | exact Nat.le_refl _⟩, ⟨by (with_reducible repeat (first | apply Kd.R_alloc | apply Kd.R_drewN | apply Kd.R_drew)); exact Kd.R_mono (Kd.R_far (p := ⟨gb530, 2, none⟩) (Kd.R_far (p := ⟨gb530, 1, none⟩) (Kd.R_far (p := ⟨gb530, 0, none⟩) (Kd.R_far (p := ⟨gb529, 1, none⟩) (Kd.R_far (p := ⟨gb529, 0, none⟩) (Kd.R_types (Kd.R_types HO514.out BK529.out (by decide)) BK530.out (by decide)) (fun _ hk => hk.1.2) (.int .i64 t521)) (fun _ hk => hk.1.2) (.slice Ao69 t522.length co69)) (fun _ hk => hk.2) (.int .i64 t525)) (fun _ hk => hk.2) (.int .i64 t526)) (fun _ hk => hk.2) (.int .i64 t527)) (fun _ hk => hk.1.1.2)⟩, ⟨by (with_reducible repeat (first | apply Kd.R_alloc | apply Kd.R_drewN | apply Kd.R_drew)); exact Kd.R_mono (Kd.R_far (p := ⟨gb530, 2, none⟩) (Kd.R_far (p := ⟨gb530, 1, none⟩) (Kd.R_far (p := ⟨gb530, 0, none⟩) (Kd.R_far (p := ⟨gb529, 1, none⟩) (Kd.R_far (p := ⟨gb529, 0, none⟩) (Kd.R_types (Kd.R_types HO524.out BK529.out (by decide)) BK530.out (by decide)) (fun _ hk => hk.1.2) (.int .i64 t521)) (fun _ hk => hk.1.2) (.slice Ao69 t522.length co69)) (fun _ hk => hk.2) (.int .i64 t525)) (fun _ hk => hk.2) (.int .i64 t526)) (fun _ hk => hk.2) (.int .i64 t527)) (fun _ hk => hk.1.1.2)⟩, ⟨zB BK489⟩, ⟨zB BK519⟩, ⟨zB BK520⟩, ⟨zB BK529⟩, ⟨zB BK530⟩, ⟨zW HB⟩⟩
    rw [if_pos c74] at H
    have c74b0 : (t518 == 0) = true := beq_iff_eq.mpr c74
    have c74b1 : (t518 != 0) = false := bne_eq_false_iff_eq.mpr c74
    clear c74
    (first | rw [c74b0] | (simp only [i64_w, i32_w]; rw [c74b0]) | skip)
    by_cases c75 : t528 = 0
    rotate_left
    ·rw [if_neg c75] at H
     have c75b0 : (t528 == 0) = false := beq_eq_false_iff_ne.mpr c75
     have c75b1 : (t528 != 0) = true := bne_iff_ne.mpr c75
     have H' := Aside0.mk H
     clear H
     go_wp2
     go_meet
     case rel => exact ⟨_, (true), zE, H', ⟨by have := HK1.out; first | omega | exact Nat.le_refl _⟩, ⟨by (with_reducible repeat (first | apply Kd.R_alloc | apply Kd.R_drewN | apply Kd.R_drew)); exact Kd.R_mono (Kd.R_far (p := ⟨gb530, 2, none⟩) (Kd.R_far (p := ⟨gb530, 1, none⟩) (Kd.R_far (p := ⟨gb530, 0, none⟩) (Kd.R_far (p := ⟨gb529, 1, none⟩) (Kd.R_far (p := ⟨gb529, 0, none⟩) (Kd.R_types (Kd.R_types HO514.out BK529.out (by decide)) BK530.out (by decide)) (fun _ hk => hk.1.2) (.int .i64 t521)) (fun _ hk => hk.1.2) (.slice Ao69 t522.length co69)) (fun _ hk => hk.2) (.int .i64 t525)) (fun _ hk => hk.2) (.int .i64 t526)) (fun _ hk => hk.2) (.int .i64 t527)) (fun _ hk => hk.1.1.2)⟩, ⟨by (with_reducible repeat (first | apply Kd.R_alloc | apply Kd.R_drewN | apply Kd.R_drew)); exact Kd.R_mono (Kd.R_far (p := ⟨gb530, 2, none⟩) (Kd.R_far (p := ⟨gb530, 1, none⟩) (Kd.R_far (p := ⟨gb530, 0, none⟩) (Kd.R_far (p := ⟨gb529, 1, none⟩) (Kd.R_far (p := ⟨gb529, 0, none⟩) (Kd.R_types (Kd.R_types HO524.out BK529.out (by decide)) BK530.out (by decide)) (fun _ hk => hk.1.2) (.int .i64 t521)) (fun _ hk => hk.1.2) (.slice Ao69 t522.length co69)) (fun _ hk => hk.2) (.int .i64 t525)) (fun _ hk => hk.2) (.int .i64 t526)) (fun _ hk => hk.2) (.int .i64 t527)) (fun _ hk => hk.1.1.2)⟩, ⟨zB BK489⟩, ⟨zB BK519⟩, ⟨zB BK520⟩, ⟨zB BK529⟩, ⟨zB BK530⟩, ⟨zW HB⟩⟩
    rw [if_pos c75] at H
    have c75b0 : (t528 == 0) = true := beq_iff_eq.mpr c75
    have c75b1 : (t528 != 0) = false := bne_eq_false_iff_eq.mpr c75
    clear c75
    by_cases c76 : (!(t515 == t525) || (!(t516 == t526) || (!(t517 == t527)))) = true
    ·rw [if_pos c76] at H
     have c76b0 : (!(t515 == t525) || (!(t516 == t526) || (!(t517 == t527)))) = true := c76
     clear c76
     have H' := Aside0.mk H
     clear H
     have hnb77 := NB520_489.out
     have hnc77 := NB489_520.out
     have hnb78 := NB520_519.out
     have hnc78 := NB519_520.out
     have hnb79 := NB520_529.out
     have hnc79 := NB529_520.out
     have hnb80 := NB520_530.out
     have hnc80 := NB530_520.out
     have hcz81_0 := zc BK520 0 (.int .i64 t515) rfl
     have hcz81_1 := zc BK520 1 (.int .i64 t516) rfl
     have hcz81_2 := zc BK520 2 (.int .i64 t517) rfl
     have hfz81_0 := blk_frozen BK520.out 0
     have hfz81_1 := blk_frozen BK520.out 1
     have hfz81_2 := blk_frozen BK520.out 2
     have hnb82 := NB530_489.out
     have hnc82 := NB489_530.out
     have hnb83 := NB530_519.out
     have hnc83 := NB519_530.out
     have hnb84 := NB530_529.out
     have hnc84 := NB529_530.out
     have hcz85_0 := zc BK530 0 (.int .i64 0) rfl
     have hcz85_1 := zc BK530 1 (.int .i64 0) rfl
     have hcz85_2 := zc BK530 2 (.int .i64 0) rfl
     have hfz85_0 := blk_frozen BK530.out 0
     have hfz85_1 := blk_frozen BK530.out 1
     have hfz85_2 := blk_frozen BK530.out 2
     go_wp2
     go_meet
     case rel => exact ⟨_, (true), zE, H', ⟨by have := HK1.out; first | omega | exact Nat.le_refl _⟩, ⟨by (with_reducible repeat (first | apply Kd.R_alloc | apply Kd.R_drewN | apply Kd.R_drew)); exact Kd.R_mono (Kd.R_far (p := ⟨gb530, 2, none⟩) (Kd.R_far (p := ⟨gb530, 1, none⟩) (Kd.R_far (p := ⟨gb530, 0, none⟩) (Kd.R_far (p := ⟨gb529, 1, none⟩) (Kd.R_far (p := ⟨gb529, 0, none⟩) (Kd.R_types (Kd.R_types HO514.out BK529.out (by decide)) BK530.out (by decide)) (fun _ hk => hk.1.2) (.int .i64 t521)) (fun _ hk => hk.1.2) (.slice Ao69 t522.length co69)) (fun _ hk => hk.2) (.int .i64 t525)) (fun _ hk => hk.2) (.int .i64 t526)) (fun _ hk => hk.2) (.int .i64 t527)) (fun _ hk => hk.1.1.2)⟩, ⟨by (with_reducible repeat (first | apply Kd.R_alloc | apply Kd.R_drewN | apply Kd.R_drew)); exact Kd.R_mono (Kd.R_far (p := ⟨gb530, 2, none⟩) (Kd.R_far (p := ⟨gb530, 1, none⟩) (Kd.R_far (p := ⟨gb530, 0, none⟩) (Kd.R_far (p := ⟨gb529, 1, none⟩) (Kd.R_far (p := ⟨gb529, 0, none⟩) (Kd.R_types (Kd.R_types HO524.out BK529.out (by decide)) BK530.out (by decide)) (fun _ hk => hk.1.2) (.int .i64 t521)) (fun _ hk => hk.1.2) (.slice Ao69 t522.length co69)) (fun _ hk => hk.2) (.int .i64 t525)) (fun _ hk => hk.2) (.int .i64 t526)) (fun _ hk => hk.2) (.int .i64 t527)) (fun _ hk => hk.1.1.2)⟩, ⟨zB BK489⟩, ⟨zB BK519⟩, ⟨zB BK520⟩, ⟨zB BK529⟩, ⟨zB BK530⟩, ⟨zW HB⟩⟩
    rw [if_neg c76] at H
    have c76b0 : (!(t515 == t525) || (!(t516 == t526) || (!(t517 == t527)))) = false := by simpa using c76
    clear c76
    by_cases c86 : (t512.length : Int) = (wrap64 ((wrap64 (1 + t477)) * t479))
    rotate_left
    ·rw [if_neg c86] at H
     have c86b0 : ((t512.length : Int) == (wrap64 ((wrap64 (1 + t477)) * t479))) = false := beq_eq_false_iff_ne.mpr c86
     have c86b1 : ((t512.length : Int) != (wrap64 ((wrap64 (1 + t477)) * t479))) = true := bne_iff_ne.mpr c86
     have H' := Aside0.mk H
     clear H
     have hnb101 := NB520_489.out
     have hnc101 := NB489_520.out
     have hnb102 := NB520_519.out
     have hnc102 := NB519_520.out
     have hnb103 := NB520_529.out
     have hnc103 := NB529_520.out
     have hnb104 := NB520_530.out
     have hnc104 := NB530_520.out
     have hcz105_0 := zc BK520 0 (.int .i64 t515) rfl
     have hcz105_1 := zc BK520 1 (.int .i64 t516) rfl
     have hcz105_2 := zc BK520 2 (.int .i64 t517) rfl
     have hfz105_0 := blk_frozen BK520.out 0
     have hfz105_1 := blk_frozen BK520.out 1
     have hfz105_2 := blk_frozen BK520.out 2
     have hnb106 := NB530_489.out
     have hnc106 := NB489_530.out
     have hnb107 := NB530_519.out
     have hnc107 := NB519_530.out
     have hnb108 := NB530_529.out
     have hnc108 := NB529_530.out
     have hcz109_0 := zc BK530 0 (.int .i64 0) rfl
     have hcz109_1 := zc BK530 1 (.int .i64 0) rfl
     have hcz109_2 := zc BK530 2 (.int .i64 0) rfl
     have hfz109_0 := blk_frozen BK530.out 0
     have hfz109_1 := blk_frozen BK530.out 1
     have hfz109_2 := blk_frozen BK530.out 2
     have hnb110 := NB519_489.out
     have hnc110 := NB489_519.out
     have hnb111 := NB519_529.out
     have hnc111 := NB529_519.out
     have hcz112_0 := zc BK519 0 (.int .i64 t511) rfl
     have hcz112_1 := zc BK519 1 (.slice Ao56 t512.length co56) rfl
     have hfz112_0 := blk_frozen BK519.out 0
     have hfz112_1 := blk_frozen BK519.out 1
     go_wp2
     go_meet
     case rel => exact ⟨_, (true), zE, H', ⟨by have := HK1.out; first | omega | exact Nat.le_refl _⟩, ⟨by (with_reducible repeat (first | apply Kd.R_alloc | apply Kd.R_drewN | apply Kd.R_drew)); exact Kd.R_mono (Kd.R_far (p := ⟨gb530, 2, none⟩) (Kd.R_far (p := ⟨gb530, 1, none⟩) (Kd.R_far (p := ⟨gb530, 0, none⟩) (Kd.R_far (p := ⟨gb529, 1, none⟩) (Kd.R_far (p := ⟨gb529, 0, none⟩) (Kd.R_types (Kd.R_types HO514.out BK529.out (by decide)) BK530.out (by decide)) (fun _ hk => hk.1.2) (.int .i64 t521)) (fun _ hk => hk.1.2) (.slice Ao69 t522.length co69)) (fun _ hk => hk.2) (.int .i64 t525)) (fun _ hk => hk.2) (.int .i64 t526)) (fun _ hk => hk.2) (.int .i64 t527)) (fun _ hk => hk.1.1.2)⟩, ⟨by (with_reducible repeat (first | apply Kd.R_alloc | apply Kd.R_drewN | apply Kd.R_drew)); exact Kd.R_mono (Kd.R_far (p := ⟨gb530, 2, none⟩) (Kd.R_far (p := ⟨gb530, 1, none⟩) (Kd.R_far (p := ⟨gb530, 0, none⟩) (Kd.R_far (p := ⟨gb529, 1, none⟩) (Kd.R_far (p := ⟨gb529, 0, none⟩) (Kd.R_types (Kd.R_types HO524.out BK529.out (by decide)) BK530.out (by decide)) (fun _ hk => hk.1.2) (.int .i64 t521)) (fun _ hk => hk.1.2) (.slice Ao69 t522.length co69)) (fun _ hk => hk.2) (.int .i64 t525)) (fun _ hk => hk.2) (.int .i64 t526)) (fun _ hk => hk.2) (.int .i64 t527)) (fun _ hk => hk.1.1.2)⟩, ⟨zB BK489⟩, ⟨zB BK519⟩, ⟨zB BK520⟩, ⟨zB BK529⟩, ⟨zB BK530⟩, ⟨zW HB⟩⟩
    rw [if_pos c86] at H
    have c86b0 : ((t512.length : Int) == (wrap64 ((wrap64 (1 + t477)) * t479))) = true := beq_iff_eq.mpr c86
    have c86b1 : ((t512.length : Int) != (wrap64 ((wrap64 (1 + t477)) * t479))) = false := bne_eq_false_iff_eq.mpr c86
    clear c86
    have H' := Aside0.mk H
    clear H
    have hnb87 := NB520_489.out
    have hnc87 := NB489_520.out
    have hnb88 := NB520_519.out
    have hnc88 := NB519_520.out
    have hnb89 := NB520_529.out
    have hnc89 := NB529_520.out
    have hnb90 := NB520_530.out
    have hnc90 := NB530_520.out
    have hcz91_0 := zc BK520 0 (.int .i64 t515) rfl
    have hcz91_1 := zc BK520 1 (.int .i64 t516) rfl
    have hcz91_2 := zc BK520 2 (.int .i64 t517) rfl
    have hfz91_0 := blk_frozen BK520.out 0
    have hfz91_1 := blk_frozen BK520.out 1
    have hfz91_2 := blk_frozen BK520.out 2
    have hnb92 := NB530_489.out
    have hnc92 := NB489_530.out
    have hnb93 := NB530_519.out
    have hnc93 := NB519_530.out
    have hnb94 := NB530_529.out
    have hnc94 := NB529_530.out
    have hcz95_0 := zc BK530 0 (.int .i64 0) rfl
    have hcz95_1 := zc BK530 1 (.int .i64 0) rfl
    have hcz95_2 := zc BK530 2 (.int .i64 0) rfl
    have hfz95_0 := blk_frozen BK530.out 0
    have hfz95_1 := blk_frozen BK530.out 1
    have hfz95_2 := blk_frozen BK530.out 2
    have hnb96 := NB519_489.out
    have hnc96 := NB489_519.out
    have hnb97 := NB519_529.out
    have hnc97 := NB529_519.out
    have hcz98_0 := zc BK519 0 (.int .i64 t511) rfl
    have hcz98_1 := zc BK519 1 (.slice Ao56 t512.length co56) rfl
    have hfz98_0 := blk_frozen BK519.out 0
    have hfz98_1 := blk_frozen BK519.out 1
    have hnb99 := NB529_489.out
    have hnc99 := NB489_529.out
    have hcz100_0 := zc BK529 0 (.int .i64 0) rfl
    have hcz100_1 := zc BK529 1 (.slice none 0 0) rfl
    have hfz100_0 := blk_frozen BK529.out 0
    have hfz100_1 := blk_frozen BK529.out 1
    go_wp2
    go_meet
    case rel => exact ⟨_, (((t522.length : Int) != (wrap64 ((wrap64 (1 + t477)) * t479)))), zE, H', ⟨by have := HK1.out; first | omega | exact Nat.le_refl _⟩, ⟨by (with_reducible repeat (first | apply Kd.R_alloc | apply Kd.R_drewN | apply Kd.R_drew)); exact Kd.R_mono (Kd.R_far (p := ⟨gb530, 2, none⟩) (Kd.R_far (p := ⟨gb530, 1, none⟩) (Kd.R_far (p := ⟨gb530, 0, none⟩) (Kd.R_far (p := ⟨gb529, 1, none⟩) (Kd.R_far (p := ⟨gb529, 0, none⟩) (Kd.R_types (Kd.R_types HO514.out BK529.out (by decide)) BK530.out (by decide)) (fun _ hk => hk.1.2) (.int .i64 t521)) (fun _ hk => hk.1.2) (.slice Ao69 t522.length co69)) (fun _ hk => hk.2) (.int .i64 t525)) (fun _ hk => hk.2) (.int .i64 t526)) (fun _ hk => hk.2) (.int .i64 t527)) (fun _ hk => hk.1.1.2)⟩, ⟨by (with_reducible repeat (first | apply Kd.R_alloc | apply Kd.R_drewN | apply Kd.R_drew)); exact Kd.R_mono (Kd.R_far (p := ⟨gb530, 2, none⟩) (Kd.R_far (p := ⟨gb530, 1, none⟩) (Kd.R_far (p := ⟨gb530, 0, none⟩) (Kd.R_far (p := ⟨gb529, 1, none⟩) (Kd.R_far (p := ⟨gb529, 0, none⟩) (Kd.R_types (Kd.R_types HO524.out BK529.out (by decide)) BK530.out (by decide)) (fun _ hk => hk.1.2) (.int .i64 t521)) (fun _ hk => hk.1.2) (.slice Ao69 t522.length co69)) (fun _ hk => hk.2) (.int .i64 t525)) (fun _ hk => hk.2) (.int .i64 t526)) (fun _ hk => hk.2) (.int .i64 t527)) (fun _ hk => hk.1.1.2)⟩, ⟨zB BK489⟩, ⟨zB BK519⟩, ⟨zB BK520⟩, ⟨zB BK529⟩, ⟨zB BK530⟩, ⟨zW HB⟩⟩
   case rest =>
    clear HC48
    try clear c1
    try clear c2
    try clear p2
    try clear c3
    try clear q3
    try clear c4
    try clear p4
    try clear q4
    try clear c5
    try clear c6
    try clear p6
    try clear c7
    try clear c8
    try clear c9
    try clear c10
    try clear c11
    try clear c16
    try clear c21
    try clear c21b0
    try clear c22
    try clear c23
    try clear c25
    try clear c26
    try clear c27
    try clear c30
    try clear c31
    try clear c33
    try clear c37
    try clear q37
    try clear q38
    try clear c49
    try clear p49
    try clear q49
    try clear c53
    try clear c54
    try clear c57
    try clear c64
    try clear p64
    try clear c65
    try clear c66
    try clear c67
    try clear c70
    try clear c71
    try clear c72
    try clear c74
    try clear c74b0
    try clear c74b1
    try clear c75
    try clear c75b0
    try clear c75b1
    try clear c76
    try clear c76b0
    try clear c77
    try clear c78
    try clear c79
    try clear c80
    try clear c82
    try clear c83
    try clear c84
    try clear c86
    try clear c86b0
    try clear c86b1
    try clear c87
    try clear c88
    try clear c89
    try clear c90
    try clear c92
    try clear c93
    try clear c94
    try clear c96
    try clear c97
    try clear c99
    try clear c101
    try clear c102
    try clear c103
    try clear c104
    try clear c106
    try clear c107
    try clear c108
    try clear c110
    try clear c111
    try clear hcz100_0
    try clear hcz100_1
    try clear hcz105_0
    try clear hcz105_1
    try clear hcz105_2
    try clear hcz109_0
    try clear hcz109_1
    try clear hcz109_2
    try clear hcz112_0
    try clear hcz112_1
    try clear hcz34_0
    try clear hcz34_1
    try clear hcz34_2
    try clear hcz34_3
    try clear hcz34_4
    try clear hcz34_5
    try clear hcz34_6
    try clear hcz34_7
    try clear hcz34_8
    try clear hcz44_0
    try clear hcz44_1
    try clear hcz44_2
    try clear hcz44_3
    try clear hcz44_4
    try clear hcz44_5
    try clear hcz44_6
    try clear hcz44_7
    try clear hcz44_8
    try clear hcz49_0
    try clear hcz49_1
    try clear hcz49_2
    try clear hcz55_0
    try clear hcz55_1
    try clear hcz58_0
    try clear hcz58_1
    try clear hcz58_2
    try clear hcz59_0
    try clear hcz59_1
    try clear hcz59_2
    try clear hcz68_0
    try clear hcz68_1
    try clear hcz73_0
    try clear hcz73_1
    try clear hcz73_2
    try clear hcz81_0
    try clear hcz81_1
    try clear hcz81_2
    try clear hcz85_0
    try clear hcz85_1
    try clear hcz85_2
    try clear hcz91_0
    try clear hcz91_1
    try clear hcz91_2
    try clear hcz95_0
    try clear hcz95_1
    try clear hcz95_2
    try clear hcz98_0
    try clear hcz98_1
    try clear hfz100_0
    try clear hfz100_1
    try clear hfz105_0
    try clear hfz105_1
    try clear hfz105_2
    try clear hfz109_0
    try clear hfz109_1
    try clear hfz109_2
    try clear hfz112_0
    try clear hfz112_1
    try clear hfz34_0
    try clear hfz34_1
    try clear hfz34_2
    try clear hfz34_3
    try clear hfz34_4
    try clear hfz34_5
    try clear hfz34_6
    try clear hfz34_7
    try clear hfz34_8
    try clear hfz44_0
    try clear hfz44_1
    try clear hfz44_2
    try clear hfz44_3
    try clear hfz44_4
    try clear hfz44_5
    try clear hfz44_6
    try clear hfz44_7
    try clear hfz44_8
    try clear hfz49_0
    try clear hfz49_1
    try clear hfz49_2
    try clear hfz55_0
    try clear hfz55_1
    try clear hfz58_0
    try clear hfz58_1
    try clear hfz58_2
    try clear hfz59_0
    try clear hfz59_1
    try clear hfz59_2
    try clear hfz68_0
    try clear hfz68_1
    try clear hfz73_0
    try clear hfz73_1
    try clear hfz73_2
    try clear hfz81_0
    try clear hfz81_1
    try clear hfz81_2
    try clear hfz85_0
    try clear hfz85_1
    try clear hfz85_2
    try clear hfz91_0
    try clear hfz91_1
    try clear hfz91_2
    try clear hfz95_0
    try clear hfz95_1
    try clear hfz95_2
    try clear hfz98_0
    try clear hfz98_1
    try clear p490
    try clear q037
    try clear q37
    try clear q38
    try clear q490
    obtain ⟨kq, x120_47, rfl, HA, HJ47, HO_520001, HO_530001, BK489, BK519, BK520, BK529, BK530, HB⟩ := hcut
    cases kq with
    | zero => exact absurd HA.out (by simp [soundservicelaw23_MixtureTurns.j1])
    | succ kj47 =>
     have H := HA.out
     clear HA
     simp only [soundservicelaw23_MixtureTurns.j1] at H
     by_cases c113 : x120_47 = true
     ·subst c113
      have H1 : (some false) = some r := by rw [if_pos rfl] at H; exact H
      clear H
      have H := H1
      clear H1
      exact absurd (H.trans (congrArg some HR_.out)) (by simp)
     replace c113 := Bool.eq_false_iff.mpr c113
     subst c113
     have H1 : (soundservicelaw23_MixtureTurns.l1 kj47 (wrap64 (1 + t477)) (Int.tmod (wrap64 (a1)) (wrap64 (1 + t477))) t522 (t522.length : Int) 0 t511 t512) = some r := by rw [if_neg (show ¬ (false = true) by decide)] at H; exact H
     clear H
     have H := H1
     clear H1
     have H' := Aside0.mk H
     clear H
     have hnb114 := NB529_489.out
     have hnc114 := NB489_529.out
     have hnb115 := NB529_519.out
     have hnc115 := NB519_529.out
     have hnb116 := NB529_520.out
     have hnc116 := NB520_529.out
     have hnb117 := NB529_530.out
     have hnc117 := NB530_529.out
     have hcz118_0 := zc BK529 0 (.int .i64 t521) rfl
     have hcz118_1 := zc BK529 1 (.slice Ao69 t522.length co69) rfl
     have hfz118_0 := blk_frozen BK529.out 0
     have hfz118_1 := blk_frozen BK529.out 1
     go_wp2
     go_loopg [124] kj47 (fun kq v124 w' => ∃ (x124_3 : Int), v124 = .int .i64 x124_3 ∧ Aside0 (soundservicelaw23_MixtureTurns.l1 kq (wrap64 (1 + t477)) (Int.tmod (wrap64 (a1)) (wrap64 (1 + t477))) t522 (t522.length : Int) x124_3 t511 t512 = some r) ∧ Aside0 (kq ≤ kj47) ∧ Aside0 (Kd.R (Kd.int .i32) 21 w' w.heap.size (fun k_ => some k_ ≠ ((.slice Ao56 t512.length co56) : Value).ownBlock) (.slice Ao69 t522.length co69) t522) ∧ Aside0 (Kd.R (Kd.int .i32) 21 w' w.heap.size (fun k_ => some k_ ≠ ((.slice Ao69 t522.length co69) : Value).ownBlock ∧ some k_ ≠ ((.slice Ao69 t522.length co69) : Value).ownBlock) (.slice Ao56 t512.length co56) t512) ∧ Aside0 (Kd.R (Kd.int .i32) 21 w' w.heap.size (fun k_ => some k_ ≠ ((.slice Ao56 t512.length co56) : Value).ownBlock) (.slice Ao69 t522.length co69) t522) ∧ Aside0 (w'.heap[gb489]? = some (.cells #[.int .i64 t485, .int .i64 t486, .int .i64 t487] 24 (0, 0))) ∧ Aside0 (w'.heap[gb519]? = some (.cells #[.int .i64 t511, (.slice Ao56 t512.length co56)] 43 (0, 0))) ∧ Aside0 (w'.heap[gb520]? = some (.cells #[.int .i64 t515, .int .i64 t516, .int .i64 t517] 24 (0, 0))) ∧ Aside0 (w'.heap[gb529]? = some (.cells #[.int .i64 t521, (.slice Ao69 t522.length co69)] 43 (0, 0))) ∧ Aside0 (w'.heap[gb530]? = some (.cells #[.int .i64 t525, .int .i64 t526, .int .i64 t527] 24 (0, 0))) ∧ Aside0 (Below w.heap.size w w'))
     case atStart => exact ⟨(0), zE, H', ⟨Nat.le_refl _⟩, ⟨zR HO_530001⟩, ⟨by (with_reducible repeat (first | apply Kd.R_alloc | apply Kd.R_drewN | apply Kd.R_drew)); exact Kd.R_mono HO_520001.out (fun _ hk => ⟨hk, hk⟩)⟩, ⟨zR HO_530001⟩, ⟨zB BK489⟩, ⟨zB BK519⟩, ⟨zB BK520⟩, ⟨zB BK529⟩, ⟨zB BK530⟩, ⟨zW HB⟩⟩
     case round =>
      clear H'
      try clear c1
      try clear c2
      try clear p2
      try clear c3
      try clear q3
      try clear c4
      try clear p4
      try clear q4
      try clear c5
      try clear c6
      try clear p6
      try clear c7
      try clear c8
      try clear c9
      try clear c10
      try clear c11
      try clear c16
      try clear c21
      try clear c21b0
      try clear c22
      try clear c23
      try clear c25
      try clear c26
      try clear c27
      try clear c30
      try clear c31
      try clear c33
      try clear c37
      try clear q37
      try clear q38
      try clear c49
      try clear p49
      try clear q49
      try clear c53
      try clear c54
      try clear c57
      try clear c64
      try clear p64
      try clear c65
      try clear c66
      try clear c67
      try clear c70
      try clear c71
      try clear c72
      try clear c74
      try clear c74b0
      try clear c74b1
      try clear c75
      try clear c75b0
      try clear c75b1
      try clear c76
      try clear c76b0
      try clear c77
      try clear c78
      try clear c79
      try clear c80
      try clear c82
      try clear c83
      try clear c84
      try clear c86
      try clear c86b0
      try clear c86b1
      try clear c87
      try clear c88
      try clear c89
      try clear c90
      try clear c92
      try clear c93
      try clear c94
      try clear c96
      try clear c97
      try clear c99
      try clear c101
      try clear c102
      try clear c103
      try clear c104
      try clear c106
      try clear c107
      try clear c108
      try clear c110
      try clear c111
      try clear c113
      try clear c114
      try clear c115
      try clear c116
      try clear c117
      try clear hcz100_0
      try clear hcz100_1
      try clear hcz105_0
      try clear hcz105_1
      try clear hcz105_2
      try clear hcz109_0
      try clear hcz109_1
      try clear hcz109_2
      try clear hcz112_0
      try clear hcz112_1
      try clear hcz118_0
      try clear hcz118_1
      try clear hcz34_0
      try clear hcz34_1
      try clear hcz34_2
      try clear hcz34_3
      try clear hcz34_4
      try clear hcz34_5
      try clear hcz34_6
      try clear hcz34_7
      try clear hcz34_8
      try clear hcz44_0
      try clear hcz44_1
      try clear hcz44_2
      try clear hcz44_3
      try clear hcz44_4
      try clear hcz44_5
      try clear hcz44_6
      try clear hcz44_7
      try clear hcz44_8
      try clear hcz49_0
      try clear hcz49_1
      try clear hcz49_2
      try clear hcz55_0
      try clear hcz55_1
      try clear hcz58_0
      try clear hcz58_1
      try clear hcz58_2
      try clear hcz59_0
      try clear hcz59_1
      try clear hcz59_2
      try clear hcz68_0
      try clear hcz68_1
      try clear hcz73_0
      try clear hcz73_1
      try clear hcz73_2
      try clear hcz81_0
      try clear hcz81_1
      try clear hcz81_2
      try clear hcz85_0
      try clear hcz85_1
      try clear hcz85_2
      try clear hcz91_0
      try clear hcz91_1
      try clear hcz91_2
      try clear hcz95_0
      try clear hcz95_1
      try clear hcz95_2
      try clear hcz98_0
      try clear hcz98_1
      try clear hfz100_0
      try clear hfz100_1
      try clear hfz105_0
      try clear hfz105_1
      try clear hfz105_2
      try clear hfz109_0
      try clear hfz109_1
      try clear hfz109_2
      try clear hfz112_0
      try clear hfz112_1
      try clear hfz118_0
      try clear hfz118_1
      try clear hfz34_0
      try clear hfz34_1
      try clear hfz34_2
      try clear hfz34_3
      try clear hfz34_4
      try clear hfz34_5
      try clear hfz34_6
      try clear hfz34_7
      try clear hfz34_8
      try clear hfz44_0
      try clear hfz44_1
      try clear hfz44_2
      try clear hfz44_3
      try clear hfz44_4
      try clear hfz44_5
      try clear hfz44_6
      try clear hfz44_7
      try clear hfz44_8
      try clear hfz49_0
      try clear hfz49_1
      try clear hfz49_2
      try clear hfz55_0
      try clear hfz55_1
      try clear hfz58_0
      try clear hfz58_1
      try clear hfz58_2
      try clear hfz59_0
      try clear hfz59_1
      try clear hfz59_2
      try clear hfz68_0
      try clear hfz68_1
      try clear hfz73_0
      try clear hfz73_1
      try clear hfz73_2
      try clear hfz81_0
      try clear hfz81_1
      try clear hfz81_2
      try clear hfz85_0
      try clear hfz85_1
      try clear hfz85_2
      try clear hfz91_0
      try clear hfz91_1
      try clear hfz91_2
      try clear hfz95_0
      try clear hfz95_1
      try clear hfz95_2
      try clear hfz98_0
      try clear hfz98_1
      try clear p2
      try clear p4
      try clear p49
      try clear p490
      try clear p6
      try clear p64
      try clear q037
      try clear q3
      try clear q37
      try clear q38
      try clear q4
      try clear q49
      try clear q490
      obtain ⟨x124_3, rfl, HA, HK3, HO_122, HO_520001, HO_530001, BK489, BK519, BK520, BK529, BK530, HB⟩ := hrel
      cases gk with
      | zero => exact absurd HA.out (by simp [soundservicelaw23_MixtureTurns.l1])
      | succ k3 =>
       have H := HA.out
       clear HA
       simp only [soundservicelaw23_MixtureTurns.l1] at H
       by_cases c119 : x124_3 < (t522.length : Int)
       rotate_left
       ·rw [if_neg c119] at H
        have c119b0 : decide (x124_3 < (t522.length : Int)) = false := decide_eq_false c119
        clear c119
        obtain rfl := Option.some.inj H
        go_wp2
        go_ret
        exact ⟨zX, zW HB⟩
       rw [if_pos c119] at H
       have c119b0 : decide (x124_3 < (t522.length : Int)) = true := decide_eq_true c119
       clear c119
       by_cases c120 : 0 ≤ x124_3
       rotate_left
       ·rw [if_neg c120] at H
        exact absurd H (by simp)
       rw [if_pos c120] at H
       have c120b0 : decide (0 ≤ x124_3) = true := decide_eq_true c120
       clear c120
       by_cases c121 : x124_3 < (t522.length : Int)
       rotate_left
       ·rw [if_neg c121] at H
        exact absurd H (by simp)
       rw [if_pos c121] at H
       have c121b0 : decide (x124_3 < (t522.length : Int)) = true := decide_eq_true c121
       clear c121
       by_cases c122 : (wrap64 (1 + t477)) = 0
       ·rw [if_pos c122] at H
        exact absurd H (by simp)
       rw [if_neg c122] at H
       have c122b0 : ((wrap64 (1 + t477)) == 0) = false := beq_eq_false_iff_ne.mpr c122
       have c122b1 : ((wrap64 (1 + t477)) != 0) = true := bne_iff_ne.mpr c122
       obtain ⟨ji123, hji123⟩ : ∃ j_ : Int, (wrap64 ((wrap64 ((wrap64 (Int.tdiv x124_3 (wrap64 (1 + t477)))) * (wrap64 (1 + t477)))) + (Int.tmod (wrap64 ((Int.tmod x124_3 (wrap64 (1 + t477))) + (Int.tmod (wrap64 (a1)) (wrap64 (1 + t477))))) (wrap64 (1 + t477))))) = j_ := ⟨_, rfl⟩
       replace H : (if 0 ≤ (ji123) then (if (ji123) < (t512.length : Int) then (if (rd t522 x124_3) = (rd t512 (ji123)) then (soundservicelaw23_MixtureTurns.l1 k3 (wrap64 (1 + t477)) (Int.tmod (wrap64 (a1)) (wrap64 (1 + t477))) t522 (t522.length : Int) (wrap64 (x124_3 + 1)) t511 t512) else (some false)) else (none)) else (none)) = some r := by first | (rw [hji123] at H; exact H) | (simp only [hji123] at H ⊢; exact H)
       have hji123w : (IntKind.i64.wrap ((wrap64 ((wrap64 (Int.tdiv x124_3 (wrap64 (1 + t477)))) * (wrap64 (1 + t477)))) + (Int.tmod (wrap64 ((Int.tmod x124_3 (wrap64 (1 + t477))) + (Int.tmod (wrap64 (a1)) (wrap64 (1 + t477))))) (wrap64 (1 + t477))))) = ji123 := (i64_w _).trans hji123
       by_cases c124 : 0 ≤ (ji123)
       rotate_left
       ·rw [if_neg c124] at H
        exact absurd H (by simp)
       rw [if_pos c124] at H
       have c124b0 : decide (0 ≤ (ji123)) = true := decide_eq_true c124
       clear c124
       by_cases c125 : (ji123) < (t512.length : Int)
       rotate_left
       ·rw [if_neg c125] at H
        exact absurd H (by simp)
       rw [if_pos c125] at H
       have c125b0 : decide ((ji123) < (t512.length : Int)) = true := decide_eq_true c125
       clear c125
       by_cases c126 : (rd t522 x124_3) = (rd t512 (ji123))
       rotate_left
       ·rw [if_neg c126] at H
        have c126b0 : ((rd t522 x124_3) == (rd t512 (ji123))) = false := beq_eq_false_iff_ne.mpr c126
        have c126b1 : ((rd t522 x124_3) != (rd t512 (ji123))) = true := bne_iff_ne.mpr c126
        exact absurd (H.trans (congrArg some HR_.out)) (by simp)
       rw [if_pos c126] at H
       have c126b0 : ((rd t522 x124_3) == (rd t512 (ji123))) = true := beq_iff_eq.mpr c126
       have c126b1 : ((rd t522 x124_3) != (rd t512 (ji123))) = false := bne_eq_false_iff_eq.mpr c126
       clear c126
       have H' := Aside0.mk H
       clear H
       have p531 : 0 ≤ (x124_3 : Int) := zD
       have q531 : x124_3 < (t522.length : Int) := zD
       obtain ⟨ad531, e531, hx531_0⟩ := Kd.at_int (Kd.R_reads' HO_122.out).2.2 x124_3 p531 q531
       cases e531
       replace p531 := eq_true p531
       replace q531 := eq_true q531
       try go_wp2
       have n0_ := Aside0.mk (Kd.R_drew HO_122.out)
       have n1_ := Aside0.mk (Kd.R_drew HO_520001.out)
       have n2_ := Aside0.mk (Kd.R_drew HO_530001.out)
       have n3_ := Aside0.mk (blk_drew BK489.out)
       have n4_ := Aside0.mk (blk_drew BK519.out)
       have n5_ := Aside0.mk (blk_drew BK520.out)
       have n6_ := Aside0.mk (blk_drew BK529.out)
       have n7_ := Aside0.mk (blk_drew BK530.out)
       have n8_ := Aside0.mk (below_drew1 HB.out)
       clear HO_122
       clear HO_520001
       clear HO_530001
       clear BK489
       clear BK519
       clear BK520
       clear BK529
       clear BK530
       clear HB
       have HO_122 := n0_
       have HO_520001 := n1_
       have HO_530001 := n2_
       have BK489 := n3_
       have BK519 := n4_
       have BK520 := n5_
       have BK529 := n6_
       have BK530 := n7_
       have HB := n8_
       clear n0_ n1_ n2_ n3_ n4_ n5_ n6_ n7_ n8_
       have p532 : 0 ≤ ((ji123) : Int) := zD
       have q532 : (ji123) < (t512.length : Int) := zD
       obtain ⟨ad532, e532, hx532_0⟩ := Kd.at_int (Kd.R_reads' HO_520001.out).2.2 (ji123) p532 q532
       cases e532
       replace p532 := eq_true p532
       replace q532 := eq_true q532
       refine start_ (n := 19) (S := fun w' => w'.cell? ⟨gb519, 0, none⟩ = some (.int .i64 t511) ∧ w'.cell? ⟨gb519, 1, none⟩ = some (.slice (some ad532) t512.length co56) ∧ w'.cell? (ad532.add ((ji123)).toNat) = some (.int .i32 (rd t512 (ji123)))) (ds := []) #[false, false, false, false, false, false, false, false, false, false, false, false, false, false, false, false, false, false, false] zk rfl rfl ⟨(blk_cell BK519.out 0).trans rfl, (blk_cell BK519.out 1).trans rfl, hx532_0⟩ (fun hHeld => ?_); refine with_tabW soundservicelaw23_MixtureTurns.tab22 soundservicelaw23_MixtureTurns.bits22 (fun HT_ HW_ => ?_)
       generalize wr.drew = w127 at HO_122 HO_520001 HO_530001 BK489 BK519 BK520 BK529 BK530 HB hx532_0 hHeld ⊢
       refine pure_ (i := 0) (N := some 129) (v := ?_) (a' := ?_) #[true, false, false, false, false, false, false, false, false, false, false, false, false, false, false, false, false, false, false] rfl rfl (any_of HT_.out zk) (fun _ _ _ h => h) (Or.inl ⟨by rfl, ?_⟩) ?_ ?_
       rotate_left
       ·intro w'
        go_simp
        with_reducible rfl
       rotate_left
       ·simp only [Act.put, List.setIfInBounds_toArray, List.set_cons_zero, List.set_cons_succ, i64_w, i32_w]
        rfl
       refine pure_ (i := 1) (N := some 130) (v := ?_) (a' := ?_) #[true, true, false, false, false, false, false, false, false, false, false, false, false, false, false, false, false, false, false] rfl rfl (any_of HT_.out zk) (fun _ _ _ h => h) (Or.inl ⟨by rfl, ?_⟩) ?_ ?_
       rotate_left
       ·intro w'
        go_simp
        with_reducible rfl
       rotate_left
       ·simp only [Act.put, List.setIfInBounds_toArray, List.set_cons_zero, List.set_cons_succ, i64_w, i32_w]
        rfl
       refine pure_ (i := 3) (N := some 132) (v := ?_) (a' := ?_) #[true, true, false, true, false, false, false, false, false, false, false, false, false, false, false, false, false, false, false] rfl rfl (any_of HT_.out zk) (fun _ _ _ h => h) (Or.inl ⟨by rfl, ?_⟩) ?_ ?_
       rotate_left
       ·intro w'
        go_simp
        with_reducible rfl
       rotate_left
       ·simp only [Act.put, List.setIfInBounds_toArray, List.set_cons_zero, List.set_cons_succ, i64_w, i32_w]
        rfl
       refine pure_ (i := 4) (N := some 133) (v := ?_) (a' := ?_) #[true, true, false, true, true, false, false, false, false, false, false, false, false, false, false, false, false, false, false] rfl rfl (any_of HT_.out zk) (fun _ _ _ h => h) (Or.inl ⟨by rfl, ?_⟩) ?_ ?_
       rotate_left
       ·intro w'
        go_simp
        with_reducible rfl
       rotate_left
       ·simp only [Act.put, List.setIfInBounds_toArray, List.set_cons_zero, List.set_cons_succ, i64_w, i32_w]
        rfl
       refine pure_ (i := 5) (N := some 134) (v := ?_) (a' := ?_) #[true, true, false, true, true, true, false, false, false, false, false, false, false, false, false, false, false, false, false] rfl rfl (any_of HT_.out zk) (fun _ _ _ h => h) (Or.inl ⟨by rfl, ?_⟩) ?_ ?_
       rotate_left
       ·intro w'
        go_simp
        with_reducible rfl
       rotate_left
       ·simp only [Act.put, List.setIfInBounds_toArray, List.set_cons_zero, List.set_cons_succ, i64_w, i32_w]
        rfl
       refine pure_ (i := 6) (N := some 135) (v := ?_) (a' := ?_) #[true, true, false, true, true, true, true, false, false, false, false, false, false, false, false, false, false, false, false] rfl rfl (any_of HT_.out zk) (fun _ _ _ h => h) (Or.inl ⟨by rfl, ?_⟩) ?_ ?_
       rotate_left
       ·intro w'
        go_simp
        with_reducible rfl
       rotate_left
       ·simp only [Act.put, List.setIfInBounds_toArray, List.set_cons_zero, List.set_cons_succ, i64_w, i32_w]
        rfl
       refine pure_ (i := 7) (N := some 136) (v := ?_) (a' := ?_) #[true, true, false, true, true, true, true, true, false, false, false, false, false, false, false, false, false, false, false] rfl rfl (any_of HT_.out zk) (fun _ _ _ h => h) (Or.inl ⟨by rfl, ?_⟩) ?_ ?_
       rotate_left
       ·intro w'
        go_simp
        with_reducible rfl
       rotate_left
       ·simp only [Act.put, List.setIfInBounds_toArray, List.set_cons_zero, List.set_cons_succ, i64_w, i32_w]
        rfl
       refine pure_ (i := 8) (N := some 137) (v := ?_) (a' := ?_) #[true, true, false, true, true, true, true, true, true, false, false, false, false, false, false, false, false, false, false] rfl rfl (any_of HT_.out zk) (fun _ _ _ h => h) (Or.inl ⟨by rfl, ?_⟩) ?_ ?_
       rotate_left
       ·intro w'
        go_simp
        with_reducible rfl
       rotate_left
       ·simp only [Act.put, List.setIfInBounds_toArray, List.set_cons_zero, List.set_cons_succ, i64_w, i32_w]
        rfl
       refine pure_ (i := 9) (N := some 138) (v := ?_) (a' := ?_) #[true, true, false, true, true, true, true, true, true, true, false, false, false, false, false, false, false, false, false] rfl rfl (any_of HT_.out zk) (fun _ _ _ h => h) (Or.inl ⟨by rfl, ?_⟩) ?_ ?_
       rotate_left
       ·intro w'
        go_simp
        with_reducible rfl
       rotate_left
       ·simp only [Act.put, List.setIfInBounds_toArray, List.set_cons_zero, List.set_cons_succ, i64_w, i32_w]
        rfl
       refine pure_ (i := 10) (N := some 139) (v := ?_) (a' := ?_) #[true, true, false, true, true, true, true, true, true, true, true, false, false, false, false, false, false, false, false] rfl rfl (any_of HT_.out zk) (fun _ _ _ h => h) (Or.inl ⟨by rfl, ?_⟩) ?_ ?_
       rotate_left
       ·intro w'
        go_simp
        with_reducible rfl
       rotate_left
       ·simp only [Act.put, List.setIfInBounds_toArray, List.set_cons_zero, List.set_cons_succ, i64_w, i32_w]
        rfl
       refine pure_ (i := 11) (N := some 140) (v := ?_) (a' := ?_) #[true, true, false, true, true, true, true, true, true, true, true, true, false, false, false, false, false, false, false] rfl rfl (any_of HT_.out zk) (fun _ _ _ h => h) (Or.inl ⟨by rfl, ?_⟩) ?_ ?_
       rotate_left
       ·intro w'
        go_simp
        with_reducible rfl
       rotate_left
       ·simp only [Act.put, List.setIfInBounds_toArray, List.set_cons_zero, List.set_cons_succ, i64_w, i32_w]
        rfl
       refine pure_ (i := 12) (N := some 141) (v := ?_) (a' := ?_) #[true, true, false, true, true, true, true, true, true, true, true, true, true, false, false, false, false, false, false] rfl rfl (any_of HT_.out zk) (fun _ _ _ h => h) (Or.inl ⟨by rfl, ?_⟩) ?_ ?_
       rotate_left
       ·intro w'
        go_simp
        with_reducible rfl
       rotate_left
       ·simp only [Act.put, List.setIfInBounds_toArray, List.set_cons_zero, List.set_cons_succ, i64_w, i32_w]
        rfl
       refine pure_ (i := 13) (N := some 142) (v := ?_) (a' := ?_) #[true, true, false, true, true, true, true, true, true, true, true, true, true, true, false, false, false, false, false] rfl rfl (any_of HT_.out zk) (fun _ _ _ h => h) (Or.inl ⟨by rfl, ?_⟩) ?_ ?_
       rotate_left
       ·intro w'
        go_simp
        with_reducible rfl
       rotate_left
       ·simp only [Act.put, List.setIfInBounds_toArray, List.set_cons_zero, List.set_cons_succ, i64_w, i32_w]
        rfl
       refine pure_ (i := 14) (N := some 143) (v := ?_) (a' := ?_) #[true, true, false, true, true, true, true, true, true, true, true, true, true, true, true, false, false, false, false] rfl rfl (any_of HT_.out zk) (fun _ _ _ h => h) (Or.inl ⟨by rfl, ?_⟩) ?_ ?_
       rotate_left
       ·intro w'
        go_simp
        with_reducible rfl
       rotate_left
       ·simp only [Act.put, List.setIfInBounds_toArray, List.set_cons_zero, List.set_cons_succ, i64_w, i32_w]
        rfl
       refine pure_ (i := 15) (N := some 144) (v := ?_) (a' := ?_) #[true, true, false, true, true, true, true, true, true, true, true, true, true, true, true, true, false, false, false] rfl rfl (any_of HT_.out zk) (fun _ _ _ h => h) (Or.inl ⟨by rfl, ?_⟩) ?_ ?_
       rotate_left
       ·intro w'
        go_simp
        with_reducible rfl
       rotate_left
       ·simp only [Act.put, List.setIfInBounds_toArray, List.set_cons_zero, List.set_cons_succ, i64_w, i32_w]
        rfl
       refine take_ (i := 2) (N := some 131) (v := ?_) (a' := ?_) #[true, true, true, true, true, true, true, true, true, true, true, true, true, true, true, true, false, false, false] rfl rfl (take_ofW HT_.out HW_.out zk) (fun _ _ _ h => h) (Or.inl ⟨by rfl, ?_⟩) hHeld ?_ ?_
       rotate_left
       ·rintro w' ⟨s0, s1, s2⟩
        go_simp
        with_reducible rfl
       rotate_left
       ·simp only [Act.put, List.setIfInBounds_toArray, List.set_cons_zero, List.set_cons_succ, i64_w, i32_w]
        rfl
       refine pure_ (i := 16) (N := some 145) (v := ?_) (a' := ?_) #[true, true, true, true, true, true, true, true, true, true, true, true, true, true, true, true, true, false, false] rfl rfl (any_of HT_.out zk) (fun _ _ _ h => h) (Or.inl ⟨by rfl, ?_⟩) ?_ ?_
       rotate_left
       ·intro w'
        go_simp
        with_reducible rfl
       rotate_left
       ·simp only [Act.put, List.setIfInBounds_toArray, List.set_cons_zero, List.set_cons_succ, i64_w, i32_w]
        rfl
       refine take_ (i := 17) (N := some 146) (v := ?_) (a' := ?_) #[true, true, true, true, true, true, true, true, true, true, true, true, true, true, true, true, true, true, false] rfl rfl (take_ofW HT_.out HW_.out zk) (fun _ _ _ h => h) (Or.inl ⟨by rfl, ?_⟩) hHeld ?_ ?_
       rotate_left
       ·rintro w' ⟨s0, s1, s2⟩
        go_simp
        with_reducible rfl
       rotate_left
       ·simp only [Act.put, List.setIfInBounds_toArray, List.set_cons_zero, List.set_cons_succ, i64_w, i32_w]
        rfl
       refine pure_ (i := 18) (N := some 147) (v := ?_) (a' := ?_) #[true, true, true, true, true, true, true, true, true, true, true, true, true, true, true, true, true, true, true] rfl rfl (any_of HT_.out zk) (fun _ _ _ h => h) (Or.inl ⟨by rfl, ?_⟩) ?_ ?_
       rotate_left
       ·intro w'
        go_simp
        with_reducible rfl
       rotate_left
       ·simp only [Act.put, List.setIfInBounds_toArray, List.set_cons_zero, List.set_cons_succ, i64_w, i32_w]
        rfl
       refine done_ (done_of HT_.out zk) ?_
       try go_wp2
       go_roundg k3
       case measure => have := HK1.out; have := HJ47.out; have := HK3.out; omega
       case rel => exact ⟨(wrap64 (x124_3 + 1)), zE, H', ⟨by have := HK1.out; have := HJ47.out; have := HK3.out; omega⟩, ⟨zR HO_122⟩, ⟨zR HO_520001⟩, ⟨zR HO_530001⟩, ⟨zB BK489⟩, ⟨zB BK519⟩, ⟨zB BK520⟩, ⟨zB BK529⟩, ⟨zB BK530⟩, ⟨zW HB⟩⟩

/-- THE ONE PURE STATEMENT of soundservicelaw23_MixtureTurns. -/
def soundservicelaw23_MixtureTurns.Pure : Prop := ∀ (l0 : List Int) (a1 : Int), l0.length ≤ maxLen → l0.length * 1 ≤ 140737488351232 → (∀ x ∈ l0, (Lit.int .u8 x).wf = true) → (Lit.int .u8 a1).wf = true → ∃ k, soundservicelaw23_MixtureTurns.f k l0 a1 = some true
theorem soundservicelaw23_MixtureTurns.walk (P : soundservicelaw23_MixtureTurns.Pure) (a0 : Option Addr) (len0 cap0 : Nat) (z0 : List Int) (a1 : Int) (w : World) (w0 : (a0 = none ∧ len0 = 0 ∧ cap0 = 0 ∧ z0 = []) ∨ ∃ x, a0 = some x ∧ len0 ≤ cap0 ∧ cap0 ≤ maxLen ∧ z0.length = cap0 ∧ (∀ i, i < z0.length → w.cell? (x.add i) = some (.int .u8 (z0.getD i 0))) ∧ ∀ n ∈ z0, (Lit.int .u8 n).wf = true) (y0 : len0 * 1 ≤ 140737488351232) (w1 : (Lit.int .u8 a1).wf = true) :
  Calls Try.prog 7 #[.slice a0 len0 cap0, .int .u8 a1] w fun e w' => e = .returned (.bool true) ∧ Below w.heap.size w w' := by
 obtain ⟨l0, rfl, hr0, hm0, hw0, hc0⟩ := ReadsInt.ofRowC w0
 obtain ⟨k, h⟩ := P l0 a1 hm0 y0 hw0 w1
 refine (soundservicelaw23_MixtureTurns.calls k _ _ l0 a1 true w (Kd.C_of_reads (d := (0 : Int)) (h1 := fun _ => rfl) hr0) hc0 rfl h).mono ?_
 rintro e w' ⟨rfl, hd⟩
 exact ⟨rfl, hd⟩

end Go.Proofs.Ytcnmemcclhahnaa.QT
