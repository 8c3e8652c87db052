-- Written by a program of this session, out of the seat's translation; checked by the kernel alone.
import Derived.Test.YtegodmjmoagajaaQM0
import Derived.Test.YtegodmjmoagajaaQM1
import Derived.Test.YtegodmjmoagajaaQM2
import Derived.Test.YtegodmjmoagajaaQM3
namespace Go.Proofs.Ytegodmjmoagajaa.QM
open Go.RowKit Go.Proofs.YtegodmjmoagajaaW.PrintWords Go.Proofs.YtegodmjmoagajaaW.PrintLast Go.Proofs.YtegodmjmoagajaaW.PrintMore
attribute [local go_sem] max2_int min2_int max_two min_two max_three min_three max_four min_four   -- for this text's walks alone
set_option linter.unusedVariables false
set_option linter.unusedSimpArgs false

/-! ### soundservicelaw05_GainMoves: function 8 -/
def soundservicelaw05_GainMoves.j0 : Nat → Int → Int → Int → Int → Int → Int → Int → Int → Int → Int → Int → Int → Int → Int → Int → Option (Bool)
 | 0, _, _, _, _, _, _, _, _, _, _, _, _, _, _, _ => none
 | k + 1, x2, x3, x11, x12, x14, x15, x16, x154000, x154001, x154002, x154003, x162000, x162001, x162002, x162003 => if x11 ≥ x15 then (if x11 ≤ x16 then (if x154001 = x154000 then (if ((decide (x154001 ≥ x154000)) == true) = true then (if x154001 > x154000 then (if x14 = 0 then (if x3 = 0 then ((gain_At.f x162000 x162001 x162002 x162003 (wrap64 (x3))).bind fun t162 => (some (t162 == (wrap64 (x2))))) else ((gain_At.f x162000 x162001 x162002 x162003 0).bind fun t163 => ((gain_At.f x154000 x154001 x154002 x154003 0).bind fun t164 => (if t163 = t164 then ((gain_At.f x162000 x162001 x162002 x162003 (wrap64 (x3))).bind fun t165 => (some (t165 == (wrap64 (x2))))) else (some false))))) else (some false)) else (if x12 ≤ x11 then (if x14 = 0 then (if x3 = 0 then ((gain_At.f x162000 x162001 x162002 x162003 (wrap64 (x3))).bind fun t166 => (some (t166 == (wrap64 (x2))))) else ((gain_At.f x162000 x162001 x162002 x162003 0).bind fun t167 => ((gain_At.f x154000 x154001 x154002 x154003 0).bind fun t168 => (if t167 = t168 then ((gain_At.f x162000 x162001 x162002 x162003 (wrap64 (x3))).bind fun t169 => (some (t169 == (wrap64 (x2))))) else (some false))))) else (some false)) else (some false))) else (some false)) else (if x12 ≥ x11 then (if ((decide (x154001 ≥ x154000)) == (decide (x154001 > x154000))) = true then (if x154001 > x154000 then (if x14 = 0 then (if x3 = 0 then ((gain_At.f x162000 x162001 x162002 x162003 (wrap64 (x3))).bind fun t170 => (some (t170 == (wrap64 (x2))))) else ((gain_At.f x162000 x162001 x162002 x162003 0).bind fun t171 => ((gain_At.f x154000 x154001 x154002 x154003 0).bind fun t172 => (if t171 = t172 then ((gain_At.f x162000 x162001 x162002 x162003 (wrap64 (x3))).bind fun t173 => (some (t173 == (wrap64 (x2))))) else (some false))))) else (some false)) else (if x12 ≤ x11 then (if x14 = 0 then (if x3 = 0 then ((gain_At.f x162000 x162001 x162002 x162003 (wrap64 (x3))).bind fun t174 => (some (t174 == (wrap64 (x2))))) else ((gain_At.f x162000 x162001 x162002 x162003 0).bind fun t175 => ((gain_At.f x154000 x154001 x154002 x154003 0).bind fun t176 => (if t175 = t176 then ((gain_At.f x162000 x162001 x162002 x162003 (wrap64 (x3))).bind fun t177 => (some (t177 == (wrap64 (x2))))) else (some false))))) else (some false)) else (some false))) else (some false)) else (if ((decide (x154001 ≥ x154000)) == false) = true then (if x154001 > x154000 then (if x14 = 0 then (if x3 = 0 then ((gain_At.f x162000 x162001 x162002 x162003 (wrap64 (x3))).bind fun t178 => (some (t178 == (wrap64 (x2))))) else ((gain_At.f x162000 x162001 x162002 x162003 0).bind fun t179 => ((gain_At.f x154000 x154001 x154002 x154003 0).bind fun t180 => (if t179 = t180 then ((gain_At.f x162000 x162001 x162002 x162003 (wrap64 (x3))).bind fun t181 => (some (t181 == (wrap64 (x2))))) else (some false))))) else (some false)) else (if x12 ≤ x11 then (if x14 = 0 then (if x3 = 0 then ((gain_At.f x162000 x162001 x162002 x162003 (wrap64 (x3))).bind fun t182 => (some (t182 == (wrap64 (x2))))) else ((gain_At.f x162000 x162001 x162002 x162003 0).bind fun t183 => ((gain_At.f x154000 x154001 x154002 x154003 0).bind fun t184 => (if t183 = t184 then ((gain_At.f x162000 x162001 x162002 x162003 (wrap64 (x3))).bind fun t185 => (some (t185 == (wrap64 (x2))))) else (some false))))) else (some false)) else (some false))) else (some false)))) else (some false)) else (some false)
def soundservicelaw05_GainMoves.f (k : Nat) (l0 : List Int) (a1 : Int) (a2 : Int) (a3 : Int) : Option (Bool) := (soundservicelaw05_sane.f).bind fun t145 => (if t145 = true then ((soundservicemade_New.f l0).bind fun t146 => ((soundservicemade_Ramp.f t146).bind fun bt148 => ((gain_At.f bt148.1 bt148.2.1 bt148.2.2.1 bt148.2.2.2.1 (wrap64 (Int.tmod a1 16))).bind fun t154 => ((gain_At.f bt148.1 bt148.2.1 bt148.2.2.1 bt148.2.2.2.1 (wrap64 ((wrap64 (Int.tmod a1 16)) + 1))).bind fun t155 => ((gain_Retarget.f bt148.1 bt148.2.1 bt148.2.2.1 bt148.2.2.2.1 (wrap64 (a2)) (wrap64 (a3))).bind fun bt156 => (soundservicelaw05_GainMoves.j0 k a2 a3 t154 t155 bt156.2.2.2.2 (mn bt148.1 bt148.2.1) (mx bt148.1 bt148.2.1) bt148.1 bt148.2.1 bt148.2.2.1 bt148.2.2.2.1 bt156.1 bt156.2.1 bt156.2.2.1 bt156.2.2.2.1)))))) else (some false))
theorem soundservicelaw05_GainMoves.mono_l : ∀ k, (∀ y0 y1 y2 y3 y4 y5 y6 y7 y8 y9 y10 y11 y12 y13 y14, LeO (soundservicelaw05_GainMoves.j0 k y0 y1 y2 y3 y4 y5 y6 y7 y8 y9 y10 y11 y12 y13 y14) (soundservicelaw05_GainMoves.j0 (k + 1) y0 y1 y2 y3 y4 y5 y6 y7 y8 y9 y10 y11 y12 y13 y14))
 | 0 => fun _ _ _ _ _ _ _ _ _ _ _ _ _ _ _ r h => by simp [soundservicelaw05_GainMoves.j0] at h
 | k + 1 => by
  have ih0 := soundservicelaw05_GainMoves.mono_l k
  ·intro y0 y1 y2 y3 y4 y5 y6 y7 y8 y9 y10 y11 y12 y13 y14
   unfold soundservicelaw05_GainMoves.j0
   repeat' first
   | (with_reducible exact ih0 _ _ _ _ _ _ _ _ _ _ _ _ _ _ _)
   | (with_reducible exact LeO.refl _)
   | (with_reducible exact LeO.none _)
   | (with_reducible refine LeO.ite ?_ ?_)
   | (with_reducible refine LeO.bind ?_ (fun _ => ?_))
   | exact ih0 _ _ _ _ _ _ _ _ _ _ _ _ _ _ _
   | exact LeO.none _
   | refine LeO.ite ?_ ?_
   | refine LeO.bind ?_ (fun _ => ?_)
theorem soundservicelaw05_GainMoves.mono : ∀ a0 a1 a2 a3 k, LeO (soundservicelaw05_GainMoves.f k a0 a1 a2 a3) (soundservicelaw05_GainMoves.f (k + 1) a0 a1 a2 a3) := by
 intro a0 a1 a2 a3 k
 have ih0 := soundservicelaw05_GainMoves.mono_l k
 unfold soundservicelaw05_GainMoves.f
 repeat' first
   | (with_reducible exact ih0 _ _ _ _ _ _ _ _ _ _ _ _ _ _ _)
   | (with_reducible exact LeO.refl _)
   | (with_reducible exact LeO.none _)
   | (with_reducible refine LeO.ite ?_ ?_)
   | (with_reducible refine LeO.bind ?_ (fun _ => ?_))
   | exact ih0 _ _ _ _ _ _ _ _ _ _ _ _ _ _ _
   | exact LeO.none _
   | refine LeO.ite ?_ ?_
   | refine LeO.bind ?_ (fun _ => ?_)
def soundservicelaw05_GainMoves.T5 : Bool × List (List Nat × List Nat) := (true, [([], []), ([], []), ([0, 1], [0, 1]), ([], []), ([], []), ([4], [4]), ([3, 5, 2], [3, 5]), ([2, 6, 0, 1, 2], [2]), ([6, 7, 0, 1, 2, 3, 4, 5, 6, 7], [6])])
def soundservicelaw05_GainMoves.B5 : List Nat := [0, 0, 3, 0, 0, 16, 63, 127, 255]
theorem soundservicelaw05_GainMoves.tab5 : rtab .any (opsOf Try.f8 5) = soundservicelaw05_GainMoves.T5 := by kernel_rfl
theorem soundservicelaw05_GainMoves.bits5 : waitsOk soundservicelaw05_GainMoves.T5.2 soundservicelaw05_GainMoves.B5 = true := by kernel_rfl
def soundservicelaw05_GainMoves.T7 : Bool × List (List Nat × List Nat) := (true, [([], []), ([0], [0]), ([], []), ([2], [2]), ([1, 3], [1, 3]), ([], []), ([5], [5]), ([], []), ([7], [7]), ([6, 8], [6, 8]), ([4, 0, 1, 2, 3, 4], [4]), ([9, 10, 0, 1, 2, 3, 4, 5, 6, 7, 8, 9, 10], [9])])
def soundservicelaw05_GainMoves.B7 : List Nat := [0, 1, 0, 4, 15, 0, 32, 0, 128, 480, 31, 2047]
theorem soundservicelaw05_GainMoves.tab7 : rtab .any (opsOf Try.f8 7) = soundservicelaw05_GainMoves.T7 := by kernel_rfl
theorem soundservicelaw05_GainMoves.bits7 : waitsOk soundservicelaw05_GainMoves.T7.2 soundservicelaw05_GainMoves.B7 = true := by kernel_rfl
def soundservicelaw05_GainMoves.T8 : Bool × List (List Nat × List Nat) := (true, [([], []), ([], []), ([0, 1], [0, 1]), ([2], [2]), ([3], [3]), ([3], [3]), ([4, 5, 3], [3, 4, 5]), ([3, 6], [3, 6]), ([7, 3], [7]), ([8], [8]), ([9, 8], [8, 9]), ([8], [8]), ([11, 8], [8, 11]), ([10, 12, 8], [8, 10, 12]), ([8], [8]), ([14, 8], [8, 14]), ([8], [8]), ([16, 8], [8, 16]), ([15, 17, 8], [8, 15, 17]), ([18, 8, 8], [8, 18]), ([19], [19]), ([19], [19]), ([20, 21, 19], [19, 20, 21]), ([22, 19, 19], [19, 22]), ([23], [23]), ([24, 23], [23, 24]), ([23], [23]), ([26, 23], [23, 26]), ([25, 27, 23], [23, 25, 27]), ([23, 28, 19], [19, 23, 28]), ([19, 29, 8], [8, 19, 29]), ([13, 30, 8], [8, 13, 30]), ([8, 31], [8, 31]), ([32, 23], [32]), ([33], [33]), ([34, 33], [33, 34]), ([33], [33]), ([36, 33], [33, 36]), ([35, 37, 33], [33, 35, 37]), ([38, 33, 33], [33, 38]), ([39], [39]), ([39], [39]), ([40, 41, 39], [39, 40, 41]), ([39, 42, 33], [33, 39, 42]), ([33, 43], [33, 43]), ([44, 39], [44]), ([45], [45]), ([46, 45], [45, 46]), ([45, 47], [45, 47]), ([48, 45], [48]), ([49], [49]), ([50, 49], [49, 50]), ([51, 49, 49], [49, 51]), ([52], [52]), ([53, 52, 52], [52, 53]), ([52], [52]), ([55, 54, 52], [52, 55]), ([54, 56, 52], [52, 54, 56]), ([52, 57, 49], [49, 52, 57]), ([49, 58], [49, 58]), ([59, 56], [59]), ([60], [60]), ([60], [60]), ([62, 60], [60, 62]), ([61, 63, 60, 60], [60, 61, 63]), ([60], [60]), ([65, 60], [60, 65]), ([64, 66, 60], [60, 64, 66]), ([60, 67], [60, 67]), ([68, 64, 0, 1, 2, 3, 4, 5, 6, 7, 8, 9, 10, 11, 12, 13, 14, 15, 16, 17, 18, 19, 20, 21, 22, 23, 24, 25, 26, 27, 28, 29, 30, 31, 32, 33, 34, 35, 36, 37, 38, 39, 40, 41, 42, 43, 44, 45, 46, 47, 48, 49, 50, 51, 52, 53, 54, 55, 56, 57, 58, 59, 60, 61, 62, 63, 64, 65, 66, 67, 68], [68])])
def soundservicelaw05_GainMoves.B8 : List Nat := [0, 0, 3, 7, 15, 15, 63, 127, 255, 511, 1023, 511, 2559, 8191, 511, 16895, 511, 66047, 246271, 508415, 1032703, 1032703, 4178431, 8372735, 16761343, 33538559, 16761343, 83870207, 268419583, 536855039, 1073725951, 2147483647, 4294967295, 8589934591, 17179869183, 34359738367, 17179869183, 85899345919, 274877906943, 549755813887, 1099511627775, 1099511627775, 4398046511103, 8796093022207, 17592186044415, 35184372088831, 70368744177663, 140737488355327, 281474976710655, 562949953421311, 1125899906842623, 2251799813685247, 4503599627370495, 9007199254740991, 18014398509481983, 9007199254740991, 72057594037927935, 144115188075855871, 288230376151711743, 576460752303423487, 1152921504606846975, 2305843009213693951, 2305843009213693951, 6917529027641081855, 18446744073709551615, 2305843009213693951, 39199331156632797183, 147573952589676412927, 295147905179352825855, 590295810358705651711]
theorem soundservicelaw05_GainMoves.tab8 : rtab .any (opsOf Try.f8 8) = soundservicelaw05_GainMoves.T8 := by kernel_rfl
theorem soundservicelaw05_GainMoves.bits8 : waitsOk soundservicelaw05_GainMoves.T8.2 soundservicelaw05_GainMoves.B8 = true := by kernel_rfl
set_option maxHeartbeats 8000000 in
set_option maxRecDepth 100000 in
theorem soundservicelaw05_GainMoves.calls (k : Nat) (A0 : Option Addr) (c0 : Nat) (l0 : List Int) (a1 : Int) (a2 : Int) (a3 : Int) (r : Bool) (w : World) (hr0 : Kd.C (Kd.int .u8) w A0 l0.length l0) (hc0 : l0.length ≤ c0) (hr_ : r = true) (h : soundservicelaw05_GainMoves.f k l0 a1 a2 a3 = some r) :
  Calls Try.prog 8 #[.slice A0 l0.length c0, .int .u8 a1, .int .u16 a2, .int .u16 a3] w fun e w' => e = .returned (.bool r) ∧ Below w.heap.size w w' := by
 have hu35 := Try.underlying35
 have HR_ := Aside0.mk hr_
 clear hr_
 have HR0 := Aside0.mk hr0
 have HC0 := Aside0.mk hc0
 clear hr0 hc0
 have HB := Aside0.mk (Below.refl w.heap.size w)
 have H : ((soundservicelaw05_sane.f).bind fun t145 => (if t145 = true then ((soundservicemade_New.f l0).bind fun t146 => ((soundservicemade_Ramp.f t146).bind fun bt148 => ((gain_At.f bt148.1 bt148.2.1 bt148.2.2.1 bt148.2.2.2.1 (wrap64 (Int.tmod a1 16))).bind fun t154 => ((gain_At.f bt148.1 bt148.2.1 bt148.2.2.1 bt148.2.2.2.1 (wrap64 ((wrap64 (Int.tmod a1 16)) + 1))).bind fun t155 => ((gain_Retarget.f bt148.1 bt148.2.1 bt148.2.2.1 bt148.2.2.2.1 (wrap64 (a2)) (wrap64 (a3))).bind fun bt156 => (soundservicelaw05_GainMoves.j0 k a2 a3 t154 t155 bt156.2.2.2.2 (mn bt148.1 bt148.2.1) (mx bt148.1 bt148.2.1) bt148.1 bt148.2.1 bt148.2.2.1 bt148.2.2.2.1 bt156.1 bt156.2.1 bt156.2.2.1 bt156.2.2.2.1)))))) else (some false))) = some r := h
 clear h
 replace H := Option.bind_eq_some_iff.mp H
 obtain ⟨t145, A50, H⟩ := H
 replace H : (if t145 = true then ((soundservicemade_New.f l0).bind fun t146 => ((soundservicemade_Ramp.f t146).bind fun bt148 => ((gain_At.f bt148.1 bt148.2.1 bt148.2.2.1 bt148.2.2.2.1 (wrap64 (Int.tmod a1 16))).bind fun t154 => ((gain_At.f bt148.1 bt148.2.1 bt148.2.2.1 bt148.2.2.2.1 (wrap64 ((wrap64 (Int.tmod a1 16)) + 1))).bind fun t155 => ((gain_Retarget.f bt148.1 bt148.2.1 bt148.2.2.1 bt148.2.2.2.1 (wrap64 (a2)) (wrap64 (a3))).bind fun bt156 => (soundservicelaw05_GainMoves.j0 k a2 a3 t154 t155 bt156.2.2.2.2 (mn bt148.1 bt148.2.1) (mx bt148.1 bt148.2.1) bt148.1 bt148.2.1 bt148.2.2.1 bt148.2.2.2.1 bt156.1 bt156.2.1 bt156.2.2.1 bt156.2.2.2.1)))))) else (some false)) = some r := H
 have A5 := Aside0.mk A50
 clear A50
 by_cases c6 : t145 = true
 rotate_left
 ·replace c6 := Bool.eq_false_iff.mpr c6
  subst c6
  have H1 : (some false) = some r := by rw [if_neg (show ¬ (false = true) by decide)] at H; exact H
  clear H
  have H := H1
  clear H1
  exact absurd (H.trans (congrArg some HR_.out)) (by simp)
 subst c6
 have H1 : ((soundservicemade_New.f l0).bind fun t146 => ((soundservicemade_Ramp.f t146).bind fun bt148 => ((gain_At.f bt148.1 bt148.2.1 bt148.2.2.1 bt148.2.2.2.1 (wrap64 (Int.tmod a1 16))).bind fun t154 => ((gain_At.f bt148.1 bt148.2.1 bt148.2.2.1 bt148.2.2.2.1 (wrap64 ((wrap64 (Int.tmod a1 16)) + 1))).bind fun t155 => ((gain_Retarget.f bt148.1 bt148.2.1 bt148.2.2.1 bt148.2.2.2.1 (wrap64 (a2)) (wrap64 (a3))).bind fun bt156 => (soundservicelaw05_GainMoves.j0 k a2 a3 t154 t155 bt156.2.2.2.2 (mn bt148.1 bt148.2.1) (mx bt148.1 bt148.2.1) bt148.1 bt148.2.1 bt148.2.2.1 bt148.2.2.2.1 bt156.1 bt156.2.1 bt156.2.2.1 bt156.2.2.2.1)))))) = some r := by rw [if_pos rfl] at H; exact H
 clear H
 have H := H1
 clear H1
 replace H := Option.bind_eq_some_iff.mp H
 obtain ⟨t146, A70, H⟩ := H
 replace H : ((soundservicemade_Ramp.f t146).bind fun bt148 => ((gain_At.f bt148.1 bt148.2.1 bt148.2.2.1 bt148.2.2.2.1 (wrap64 (Int.tmod a1 16))).bind fun t154 => ((gain_At.f bt148.1 bt148.2.1 bt148.2.2.1 bt148.2.2.2.1 (wrap64 ((wrap64 (Int.tmod a1 16)) + 1))).bind fun t155 => ((gain_Retarget.f bt148.1 bt148.2.1 bt148.2.2.1 bt148.2.2.2.1 (wrap64 (a2)) (wrap64 (a3))).bind fun bt156 => (soundservicelaw05_GainMoves.j0 k a2 a3 t154 t155 bt156.2.2.2.2 (mn bt148.1 bt148.2.1) (mx bt148.1 bt148.2.1) bt148.1 bt148.2.1 bt148.2.2.1 bt148.2.2.2.1 bt156.1 bt156.2.1 bt156.2.2.1 bt156.2.2.2.1))))) = some r := H
 have A7 := Aside0.mk A70
 clear A70
 replace H := Option.bind_eq_some_iff.mp H
 obtain ⟨⟨t148, t149, t150, t151, t152⟩, A80, H⟩ := H
 replace H : ((gain_At.f t148 t149 t150 t151 (wrap64 (Int.tmod a1 16))).bind fun t154 => ((gain_At.f t148 t149 t150 t151 (wrap64 ((wrap64 (Int.tmod a1 16)) + 1))).bind fun t155 => ((gain_Retarget.f t148 t149 t150 t151 (wrap64 (a2)) (wrap64 (a3))).bind fun bt156 => (soundservicelaw05_GainMoves.j0 k a2 a3 t154 t155 bt156.2.2.2.2 (mn t148 t149) (mx t148 t149) t148 t149 t150 t151 bt156.1 bt156.2.1 bt156.2.2.1 bt156.2.2.2.1)))) = some r := H
 have A8 := Aside0.mk A80
 clear A80
 replace H := Option.bind_eq_some_iff.mp H
 obtain ⟨t154, A90, H⟩ := H
 replace H : ((gain_At.f t148 t149 t150 t151 (wrap64 ((wrap64 (Int.tmod a1 16)) + 1))).bind fun t155 => ((gain_Retarget.f t148 t149 t150 t151 (wrap64 (a2)) (wrap64 (a3))).bind fun bt156 => (soundservicelaw05_GainMoves.j0 k a2 a3 t154 t155 bt156.2.2.2.2 (mn t148 t149) (mx t148 t149) t148 t149 t150 t151 bt156.1 bt156.2.1 bt156.2.2.1 bt156.2.2.2.1))) = some r := H
 have A9 := Aside0.mk A90
 clear A90
 replace H := Option.bind_eq_some_iff.mp H
 obtain ⟨t155, A100, H⟩ := H
 replace H : ((gain_Retarget.f t148 t149 t150 t151 (wrap64 (a2)) (wrap64 (a3))).bind fun bt156 => (soundservicelaw05_GainMoves.j0 k a2 a3 t154 t155 bt156.2.2.2.2 (mn t148 t149) (mx t148 t149) t148 t149 t150 t151 bt156.1 bt156.2.1 bt156.2.2.1 bt156.2.2.2.1)) = some r := H
 have A10 := Aside0.mk A100
 clear A100
 replace H := Option.bind_eq_some_iff.mp H
 obtain ⟨⟨t156, t157, t158, t159, t160⟩, A110, H⟩ := H
 replace H : (soundservicelaw05_GainMoves.j0 k a2 a3 t154 t155 t160 (mn t148 t149) (mx t148 t149) t148 t149 t150 t151 t156 t157 t158 t159) = some r := H
 have A11 := Aside0.mk A110
 clear A110
 have HC12 := Aside0.mk H
 clear H
 go_enter Try.func8, Try.ntmps8
 try go_wp2_with (first | ((with_reducible refine gate_callee (f := 12) rfl ?_); refine goesL_ (some 17) rfl rfl Try.func12 zk rfl #[] rfl zA ?_; (with_reducible refine (soundservicelaw05_sane.calls  true _ A5.out).mono ?_); rintro e w13 ⟨rfl, hb⟩; refine ⟨_, rfl, ?_⟩; replace HB := Aside0.mk (below_step (zW HB) hb); (try clear hb)) | ((with_reducible refine gate_callee (f := 21) rfl ?_); refine goesL_ (some 20) rfl rfl Try.func21 zk rfl #[.slice A0 l0.length c0] rfl zA ?_; (with_reducible refine (soundservicemade_New.calls _ _ l0 t146 w _ ?side1 ?side2 ?side3 A7.out).mono ?_); (case side1 => exact zW HB); (case side2 => exact HR0.out); (case side3 => exact HC0.out); rintro e w14 ⟨g147, rfl, hi, hb, hb2, hgw⟩; refine ⟨_, rfl, ?_⟩; replace HB := Aside0.mk (hb); have HI147 := Aside0.mk (hi); (try clear hb)) | ((with_reducible refine gate_callee (f := 20) rfl ?_); refine goesL_ (some 21) rfl rfl Try.func20 zk rfl #[.pointer (some ⟨g147, 0, none⟩)] rfl zA ?_; (with_reducible refine (soundservicemade_Ramp.calls g147 t146 t148 t149 t150 t151 t152 w _ ?side1 ?side2 A8.out).mono ?_); (case side1 => exact zJ HI147); (case side2 => exact zI HB HI147); rintro e w15 ⟨rfl, hi, hb, hk⟩; refine ⟨_, rfl, ?_⟩; replace HB := Aside0.mk (hb); replace HI147 := Aside0.mk (hi); (try clear hb); (try clear hk); (try clear hi)) | ((with_reducible refine gate_dst (N := 9) rfl ?_); refine box_event ?hg (N := 9) ?hd (cs := #[.int .i64 0, .int .i64 0, .int .i64 0, .int .i64 0]) (t := 35) ?hr ?_; (case hd => rfl); (case hg => rfl); (case hr => first | (go_simp; done) | (go_simp; rfl)); intro gb153 hg w16 hbox hb; have BK153 := Aside0.mk (hbox); have GW153 := Aside0.mk ((by rw [hg]; exact (below_size (zI HB HI147)) : w.heap.size ≤ gb153)); have GE153 := Aside0.mk ((by rw [hg]; exact (below_size (zI HB HI147)) : w.heap.size ≤ gb153)); replace HB := Aside0.mk (below_step (zI HB HI147) hb); have NB147_153 := Aside0.mk ((by rw [hg]; exact Nat.ne_of_lt (IsS65.lt (show IsS65 w _ g147 t152 from zJ HI147)) : g147 ≠ gb153)); have NB153_147 := Aside0.mk ((by rw [hg]; exact Nat.ne_of_gt (IsS65.lt (show IsS65 w _ g147 t152 from zJ HI147)) : gb153 ≠ g147)); replace HI147 := Aside0.mk (IsS65.below (zJ HI147) hb); clear hb hbox hg; have hnb17 := NB153_147.out; have hnc17 := NB147_153.out; have hcz18_0 := zc BK153 0 (.int .i64 0) rfl; have hcz18_1 := zc BK153 1 (.int .i64 0) rfl; have hcz18_2 := zc BK153 2 (.int .i64 0) rfl; have hcz18_3 := zc BK153 3 (.int .i64 0) rfl; have hfz18_0 := blk_frozen BK153.out 0; have hfz18_1 := blk_frozen BK153.out 1; have hfz18_2 := blk_frozen BK153.out 2; have hfz18_3 := blk_frozen BK153.out 3))
 have n0_ : Aside0 (((((w16.setCell ⟨gb153, 0, none⟩ (.int .i64 t148)).setCell ⟨gb153, 1, none⟩ (.int .i64 t149)).setCell ⟨gb153, 2, none⟩ (.int .i64 t150)).setCell ⟨gb153, 3, none⟩ (.int .i64 t151)).heap[gb153]? = some (.cells #[.int .i64 t148, .int .i64 t149, .int .i64 t150, .int .i64 t151] 35 (0, 0))) := ⟨zB BK153⟩
 have n1_ : Aside0 (IsS65 w ((((w16.setCell ⟨gb153, 0, none⟩ (.int .i64 t148)).setCell ⟨gb153, 1, none⟩ (.int .i64 t149)).setCell ⟨gb153, 2, none⟩ (.int .i64 t150)).setCell ⟨gb153, 3, none⟩ (.int .i64 t151)) g147 t152) := ⟨zJ HI147⟩
 have n2_ : Aside0 (Below w.heap.size w ((((w16.setCell ⟨gb153, 0, none⟩ (.int .i64 t148)).setCell ⟨gb153, 1, none⟩ (.int .i64 t149)).setCell ⟨gb153, 2, none⟩ (.int .i64 t150)).setCell ⟨gb153, 3, none⟩ (.int .i64 t151))) := ⟨zI HB HI147⟩
 (try clear BK153)
 (try clear HI147)
 (try clear HB)
 generalize ((((w16.setCell ⟨gb153, 0, none⟩ (.int .i64 t148)).setCell ⟨gb153, 1, none⟩ (.int .i64 t149)).setCell ⟨gb153, 2, none⟩ (.int .i64 t150)).setCell ⟨gb153, 3, none⟩ (.int .i64 t151)) = w19 at n0_ n1_ n2_ ⊢
 have BK153 := n0_
 have HI147 := n1_
 have HB := n2_
 clear n0_ n1_ n2_
 have n0_ := Aside0.mk (blk_drew BK153.out)
 have n1_ := Aside0.mk (IsS65.drew HI147.out)
 have n2_ := Aside0.mk (below_drew1 HB.out)
 clear BK153
 clear HI147
 clear HB
 have BK153 := n0_
 have HI147 := n1_
 have HB := n2_
 clear n0_ n1_ n2_
 refine start_ (n := 9) (S := fun w' => w'.cell? ⟨gb153, 0, none⟩ = some (.int .i64 t148) ∧ w'.cell? ⟨gb153, 1, none⟩ = some (.int .i64 t149) ∧ w'.cell? ⟨gb153, 2, none⟩ = some (.int .i64 t150) ∧ w'.cell? ⟨gb153, 3, none⟩ = some (.int .i64 t151)) (ds := []) (HX 9 0) zk rfl rfl ⟨(blk_cell BK153.out 0).trans rfl, (blk_cell BK153.out 1).trans rfl, (blk_cell BK153.out 2).trans rfl, (blk_cell BK153.out 3).trans rfl⟩ (fun hHeld => ?_); refine with_tabW soundservicelaw05_GainMoves.tab5 soundservicelaw05_GainMoves.bits5 (fun HT_ HW_ => ?_)
 generalize w19.drew = w20 at BK153 HI147 HB hHeld ⊢
 refine zP 1 26 2 HT_ rfl rfl ?_
 refine zP 4 29 18 HT_ rfl rfl ?_
 refine zP 5 30 50 HT_ rfl rfl ?_
 refine zQ 0 25 51 HT_ HW_ hHeld rfl rfl ?_
 refine zQ 3 28 59 HT_ HW_ hHeld rfl rfl ?_
 refine one_ (i := 2) (N := some 27) (HX 9 63) rfl rfl (one_of HT_.out zk) (by decide) (fun K hK => ?_)
 refine goes_ Try.func22 zk rfl #[.agg #[.int .i64 t148, .int .i64 t149, .int .i64 t150, .int .i64 t151], .int .i64 (wrap64 (Int.tmod a1 16))] (by rfl) rfl rfl zA ?_
 with_reducible refine (gain_At.calls t148 t149 t150 t151 (wrap64 (Int.tmod a1 16)) t154 _ A9.out).mono ?_
 rintro e w21 ⟨rfl, hb⟩
 refine ⟨_, rfl, ?_⟩
 have n0_ := Aside0.mk (IsS65.below (zJ HI147) hb)
 have n1_ := Aside0.mk (blk_below (zB BK153) hb)
 have n2_ := Aside0.mk (below_step (zI HB HI147) hb)
 clear HI147
 clear BK153
 clear HB
 have HI147 := n0_
 have BK153 := n1_
 have HB := n2_
 clear n0_ n1_ n2_
 (try clear hb)
 (try clear hb2)
 (try clear hk)
 (try clear hi)
 (try clear hgw)
 refine hK.out _ _ ⟨(blk_cell BK153.out 0).trans rfl, (blk_cell BK153.out 1).trans rfl, (blk_cell BK153.out 2).trans rfl, (blk_cell BK153.out 3).trans rfl⟩ (fun hHeld => ?_)
 clear hK K
 refine norm_ (a' := ?_) ?_ ?_
 rotate_left
 ·show Act.put _ (some 27) _ = _
  simp only [Act.put, List.setIfInBounds_toArray, List.set_cons_zero, List.set_cons_succ, i64_w, i32_w]
  rfl
 refine one_ (i := 6) (N := some 31) (HX 9 127) rfl rfl (one_of HT_.out zk) (by decide) (fun K hK => ?_)
 refine goes_ Try.func22 zk rfl #[.agg #[.int .i64 t148, .int .i64 t149, .int .i64 t150, .int .i64 t151], .int .i64 (wrap64 ((wrap64 (Int.tmod a1 16)) + 1))] (by rfl) rfl rfl zA ?_
 with_reducible refine (gain_At.calls t148 t149 t150 t151 (wrap64 ((wrap64 (Int.tmod a1 16)) + 1)) t155 _ A10.out).mono ?_
 rintro e w22 ⟨rfl, hb⟩
 refine ⟨_, rfl, ?_⟩
 have n0_ := Aside0.mk (IsS65.below (zJ HI147) hb)
 have n1_ := Aside0.mk (blk_below (zB BK153) hb)
 have n2_ := Aside0.mk (below_step (zI HB HI147) hb)
 clear HI147
 clear BK153
 clear HB
 have HI147 := n0_
 have BK153 := n1_
 have HB := n2_
 clear n0_ n1_ n2_
 (try clear hb)
 (try clear hb2)
 (try clear hk)
 (try clear hi)
 (try clear hgw)
 refine hK.out _ _ ⟨(blk_cell BK153.out 0).trans rfl, (blk_cell BK153.out 1).trans rfl, (blk_cell BK153.out 2).trans rfl, (blk_cell BK153.out 3).trans rfl⟩ (fun hHeld => ?_)
 clear hK K
 refine norm_ (a' := ?_) ?_ ?_
 rotate_left
 ·show Act.put _ (some 31) _ = _
  simp only [Act.put, List.setIfInBounds_toArray, List.set_cons_zero, List.set_cons_succ, i64_w, i32_w]
  rfl
 refine zP 7 11 255 HT_ rfl rfl ?_
 refine zP 8 12 511 HT_ rfl rfl ?_
 refine done_ (done_of HT_.out zk) ?_
 have hcz23_0 := zc BK153 0 (.int .i64 t148) rfl
 have hcz23_1 := zc BK153 1 (.int .i64 t149) rfl
 have hcz23_2 := zc BK153 2 (.int .i64 t150) rfl
 have hcz23_3 := zc BK153 3 (.int .i64 t151) rfl
 have hfz23_0 := blk_frozen BK153.out 0
 have hfz23_1 := blk_frozen BK153.out 1
 have hfz23_2 := blk_frozen BK153.out 2
 have hfz23_3 := blk_frozen BK153.out 3
 go_upto_region 7 with (first | ((with_reducible refine gate_callee (f := 24) rfl ?_); refine goesL_ (some 38) rfl rfl Try.func24 zk rfl #[.agg #[.int .i64 t148, .int .i64 t149, .int .i64 t150, .int .i64 t151], .int .i64 (wrap64 (a2)), .int .i64 (wrap64 (a3))] rfl zA ?_; (with_reducible refine (gain_Retarget.calls t148 t149 t150 t151 (wrap64 (a2)) (wrap64 (a3)) t156 t157 t158 t159 t160 _ A11.out).mono ?_); rintro e w24 ⟨rfl, hb⟩; refine ⟨_, rfl, ?_⟩; replace BK153 := Aside0.mk (blk_below (zB BK153) hb); replace HB := Aside0.mk (below_step (zI HB HI147) hb); replace HI147 := Aside0.mk (IsS65.below (zJ HI147) hb); (try clear hb)) | ((with_reducible refine gate_dst (N := 13) rfl ?_); refine box_event ?hg (N := 13) ?hd (cs := #[.int .i64 0, .int .i64 0, .int .i64 0, .int .i64 0]) (t := 35) ?hr ?_; (case hd => rfl); (case hg => rfl); (case hr => first | (go_simp; done) | (go_simp; rfl)); intro gb161 hg w25 hbox hb; have BK161 := Aside0.mk (hbox); have GW161 := Aside0.mk ((by rw [hg]; exact (below_size (zI HB HI147)) : w.heap.size ≤ gb161)); have GE161 := Aside0.mk ((by rw [hg]; exact (below_size (zI HB HI147)) : w.heap.size ≤ gb161)); replace HB := Aside0.mk (below_step (zI HB HI147) hb); have NB153_161 := Aside0.mk (zL hg BK153); have NB161_153 := Aside0.mk (zG hg BK153); replace BK153 := Aside0.mk (blk_below (zB BK153) hb); have NB147_161 := Aside0.mk ((by rw [hg]; exact Nat.ne_of_lt (IsS65.lt (show IsS65 w _ g147 t152 from zJ HI147)) : g147 ≠ gb161)); have NB161_147 := Aside0.mk ((by rw [hg]; exact Nat.ne_of_gt (IsS65.lt (show IsS65 w _ g147 t152 from zJ HI147)) : gb161 ≠ g147)); replace HI147 := Aside0.mk (IsS65.below (zJ HI147) hb); clear hb hbox hg; have hnb26 := NB161_153.out; have hnc26 := NB153_161.out; have hnb27 := NB161_147.out; have hnc27 := NB147_161.out; have hcz28_0 := zc BK161 0 (.int .i64 0) rfl; have hcz28_1 := zc BK161 1 (.int .i64 0) rfl; have hcz28_2 := zc BK161 2 (.int .i64 0) rfl; have hcz28_3 := zc BK161 3 (.int .i64 0) rfl; have hfz28_0 := blk_frozen BK161.out 0; have hfz28_1 := blk_frozen BK161.out 1; have hfz28_2 := blk_frozen BK161.out 2; have hfz28_3 := blk_frozen BK161.out 3))
 (try simp only [Act.put, List.setIfInBounds_toArray, List.set_cons_zero, List.set_cons_succ])
 go_cut [15, 16] (fun v15 v16 wc => ∃ (kq : Nat) (x15_11 : Int) (x16_11 : Int), v15 = .int .i64 x15_11 ∧ v16 = .int .i64 x16_11 ∧ Aside0 (soundservicelaw05_GainMoves.j0 kq a2 a3 t154 t155 t160 x15_11 x16_11 t148 t149 t150 t151 t156 t157 t158 t159 = some r) ∧ Aside0 (kq ≤ k) ∧ Aside0 (wc.heap[gb153]? = some (.cells #[.int .i64 t148, .int .i64 t149, .int .i64 t150, .int .i64 t151] 35 (0, 0))) ∧ Aside0 (wc.heap[gb161]? = some (.cells #[.int .i64 t156, .int .i64 t157, .int .i64 t158, .int .i64 t159] 35 (0, 0))) ∧ Aside0 (Below w.heap.size w wc))
 case first =>
  have H := HC12.out
  clear HC12
  obtain ⟨ji29, hji29⟩ : ∃ j_ : Int, (mn t148 t149) = j_ := ⟨_, rfl⟩
  replace H : (soundservicelaw05_GainMoves.j0 k a2 a3 t154 t155 t160 ji29 (mx t148 t149) t148 t149 t150 t151 t156 t157 t158 t159) = some r := by first | (rw [hji29] at H; exact H) | (simp only [hji29] at H ⊢; exact H)
  have hji29_ : (if t149 < t148 then t149 else t148) = ji29 := hji29
  obtain ⟨ji30, hji30⟩ : ∃ j_ : Int, (mx t148 t149) = j_ := ⟨_, rfl⟩
  replace H : (soundservicelaw05_GainMoves.j0 k a2 a3 t154 t155 t160 ji29 ji30 t148 t149 t150 t151 t156 t157 t158 t159) = some r := by first | (rw [hji30] at H; exact H) | (simp only [hji30] at H ⊢; exact H)
  have hji30_ : (if t148 < t149 then t149 else t148) = ji30 := hji30
  have H' := Aside0.mk H
  clear H
  try go_wp2
  have n0_ : Aside0 (((((w25.setCell ⟨gb161, 0, none⟩ (.int .i64 t156)).setCell ⟨gb161, 1, none⟩ (.int .i64 t157)).setCell ⟨gb161, 2, none⟩ (.int .i64 t158)).setCell ⟨gb161, 3, none⟩ (.int .i64 t159)).heap[gb153]? = some (.cells #[.int .i64 t148, .int .i64 t149, .int .i64 t150, .int .i64 t151] 35 (0, 0))) := ⟨zB BK153⟩
  have n1_ : Aside0 (((((w25.setCell ⟨gb161, 0, none⟩ (.int .i64 t156)).setCell ⟨gb161, 1, none⟩ (.int .i64 t157)).setCell ⟨gb161, 2, none⟩ (.int .i64 t158)).setCell ⟨gb161, 3, none⟩ (.int .i64 t159)).heap[gb161]? = some (.cells #[.int .i64 t156, .int .i64 t157, .int .i64 t158, .int .i64 t159] 35 (0, 0))) := ⟨zB BK161⟩
  have n2_ : Aside0 (IsS65 w ((((w25.setCell ⟨gb161, 0, none⟩ (.int .i64 t156)).setCell ⟨gb161, 1, none⟩ (.int .i64 t157)).setCell ⟨gb161, 2, none⟩ (.int .i64 t158)).setCell ⟨gb161, 3, none⟩ (.int .i64 t159)) g147 t152) := ⟨zJ HI147⟩
  have n3_ : Aside0 (Below w.heap.size w ((((w25.setCell ⟨gb161, 0, none⟩ (.int .i64 t156)).setCell ⟨gb161, 1, none⟩ (.int .i64 t157)).setCell ⟨gb161, 2, none⟩ (.int .i64 t158)).setCell ⟨gb161, 3, none⟩ (.int .i64 t159))) := ⟨zI HB HI147⟩
  (try clear BK153)
  (try clear BK161)
  (try clear HI147)
  (try clear HB)
  generalize ((((w25.setCell ⟨gb161, 0, none⟩ (.int .i64 t156)).setCell ⟨gb161, 1, none⟩ (.int .i64 t157)).setCell ⟨gb161, 2, none⟩ (.int .i64 t158)).setCell ⟨gb161, 3, none⟩ (.int .i64 t159)) = w31 at n0_ n1_ n2_ n3_ ⊢
  have BK153 := n0_
  have BK161 := n1_
  have HI147 := n2_
  have HB := n3_
  clear n0_ n1_ n2_ n3_
  have n0_ := Aside0.mk (blk_drew BK153.out)
  have n1_ := Aside0.mk (blk_drew BK161.out)
  have n2_ := Aside0.mk (IsS65.drew HI147.out)
  have n3_ := Aside0.mk (below_drew1 HB.out)
  clear BK153
  clear BK161
  clear HI147
  clear HB
  have BK153 := n0_
  have BK161 := n1_
  have HI147 := n2_
  have HB := n3_
  clear n0_ n1_ n2_ n3_
  refine start_ (n := 12) (S := fun w' => w'.cell? ⟨gb153, 0, none⟩ = some (.int .i64 t148) ∧ w'.cell? ⟨gb153, 1, none⟩ = some (.int .i64 t149) ∧ w'.cell? ⟨gb153, 2, none⟩ = some (.int .i64 t150) ∧ w'.cell? ⟨gb153, 3, none⟩ = some (.int .i64 t151)) (ds := []) (HX 12 0) zk rfl rfl ⟨(blk_cell BK153.out 0).trans rfl, (blk_cell BK153.out 1).trans rfl, (blk_cell BK153.out 2).trans rfl, (blk_cell BK153.out 3).trans rfl⟩ (fun hHeld => ?_); refine with_tabW soundservicelaw05_GainMoves.tab7 soundservicelaw05_GainMoves.bits7 (fun HT_ HW_ => ?_)
  generalize w31.drew = w32 at BK153 BK161 HI147 HB hHeld ⊢
  refine zP 0 41 1 HT_ rfl rfl ?_
  refine zP 2 43 5 HT_ rfl rfl ?_
  refine zP 5 46 37 HT_ rfl rfl ?_
  refine zP 7 48 165 HT_ rfl rfl ?_
  refine zQ 1 42 167 HT_ HW_ hHeld rfl rfl ?_
  refine zQ 3 44 175 HT_ HW_ hHeld rfl rfl ?_
  refine zP 4 45 191 HT_ rfl rfl ?_
  refine zP 10 15 1215 HT_ rfl rfl ?_
  refine zQ 6 47 1279 HT_ HW_ hHeld rfl rfl ?_
  refine zQ 8 49 1535 HT_ HW_ hHeld rfl rfl ?_
  refine zP 9 50 2047 HT_ rfl rfl ?_
  refine zP 11 16 4095 HT_ rfl rfl ?_
  refine done_ (done_of HT_.out zk) ?_
  try go_wp2
  go_meet
  case rel => exact ⟨_, (ji29), (ji30), (by first | rfl | (simp; done) | (simp only [← hji29] <;> (first | rfl | simp)) | (simp [*]; done)), (by first | rfl | (simp; done) | (simp only [← hji30] <;> (first | rfl | simp)) | (simp [*]; done)), H', ⟨zY⟩, ⟨zB BK153⟩, ⟨zB BK161⟩, ⟨zI HB HI147⟩⟩
 case rest =>
  clear HC12
  try clear c1
  try clear c2
  try clear p2
  try clear c6
  try clear p6
  try clear c8
  try clear c12
  try clear c17
  try clear c20
  try clear c21
  try clear c22
  try clear c24
  try clear c26
  try clear c27
  try clear hcz18_0
  try clear hcz18_1
  try clear hcz18_2
  try clear hcz18_3
  try clear hcz23_0
  try clear hcz23_1
  try clear hcz23_2
  try clear hcz23_3
  try clear hcz28_0
  try clear hcz28_1
  try clear hcz28_2
  try clear hcz28_3
  try clear hfz18_0
  try clear hfz18_1
  try clear hfz18_2
  try clear hfz18_3
  try clear hfz23_0
  try clear hfz23_1
  try clear hfz23_2
  try clear hfz23_3
  try clear hfz28_0
  try clear hfz28_1
  try clear hfz28_2
  try clear hfz28_3
  obtain ⟨kq, x15_11, x16_11, rfl, rfl, HA, HJ11, BK153, BK161, HB⟩ := hcut
  cases kq with
  | zero => exact absurd HA.out (by simp [soundservicelaw05_GainMoves.j0])
  | succ kj11 =>
   have H := HA.out
   clear HA
   simp only [soundservicelaw05_GainMoves.j0] at H
   by_cases c33 : t154 ≥ x15_11
   rotate_left
   ·rw [if_neg c33] at H
    have c33b0 : decide (x15_11 ≤ t154) = false := decide_eq_false c33
    clear c33
    exact absurd (H.trans (congrArg some HR_.out)) (by simp)
   rw [if_pos c33] at H
   have c33b0 : decide (x15_11 ≤ t154) = true := decide_eq_true c33
   clear c33
   by_cases c34 : t154 ≤ x16_11
   rotate_left
   ·rw [if_neg c34] at H
    have c34b0 : decide (t154 ≤ x16_11) = false := decide_eq_false c34
    clear c34
    exact absurd (H.trans (congrArg some HR_.out)) (by simp)
   rw [if_pos c34] at H
   have c34b0 : decide (t154 ≤ x16_11) = true := decide_eq_true c34
   clear c34
   by_cases c35 : t149 = t148
   ·rw [if_pos c35] at H
    have c35b0 : (t149 == t148) = true := beq_iff_eq.mpr c35
    have c35b1 : (t149 != t148) = false := bne_eq_false_iff_eq.mpr c35
    clear c35
    by_cases c36 : ((decide (t149 ≥ t148)) == true) = true
    rotate_left
    ·rw [if_neg c36] at H
     have c36b0 : ((decide (t149 ≥ t148)) == true) = false := by simpa using c36
     (try (have c36b1 : decide ((decide (t149 ≥ t148)) = true) = false := by simpa using c36))
     (try (have c36b2 : ((decide (t149 ≥ t148)) == true) = false := by simpa using c36))
     (try (have c36b3 : ¬ ((decide (t149 ≥ t148)) = true) := by simpa using c36))
     clear c36
     exact absurd (H.trans (congrArg some HR_.out)) (by simp)
    rw [if_pos c36] at H
    have c36b0 : ((decide (t149 ≥ t148)) == true) = true := c36
    (try (have c36b1 : decide ((decide (t149 ≥ t148)) = true) = true := by simpa using c36))
    (try (have c36b2 : ((decide (t149 ≥ t148)) == true) = true := by simpa using c36))
    clear c36
    by_cases c37 : t149 > t148
    ·exact absurd (beq_iff_eq.mp c35b0) (by omega)
    rw [if_neg c37] at H
    have c37b0 : decide (t148 < t149) = false := decide_eq_false c37
    clear c37
    by_cases c51 : t155 ≤ t154
    rotate_left
    ·rw [if_neg c51] at H
     have c51b0 : decide (t155 ≤ t154) = false := decide_eq_false c51
     clear c51
     exact absurd (H.trans (congrArg some HR_.out)) (by simp)
    rw [if_pos c51] at H
    have c51b0 : decide (t155 ≤ t154) = true := decide_eq_true c51
    clear c51
    by_cases c52 : t160 = 0
    rotate_left
    ·rw [if_neg c52] at H
     have c52b0 : (t160 == 0) = false := beq_eq_false_iff_ne.mpr c52
     have c52b1 : (t160 != 0) = true := bne_iff_ne.mpr c52
     exact absurd (H.trans (congrArg some HR_.out)) (by simp)
    rw [if_pos c52] at H
    have c52b0 : (t160 == 0) = true := beq_iff_eq.mpr c52
    have c52b1 : (t160 != 0) = false := bne_eq_false_iff_eq.mpr c52
    clear c52
    by_cases c53 : a3 = 0
    ·rw [if_pos c53] at H
     have c53b0 : (a3 == 0) = true := beq_iff_eq.mpr c53
     have c53b1 : (a3 != 0) = false := bne_eq_false_iff_eq.mpr c53
     clear c53
     replace H := Option.bind_eq_some_iff.mp H
     obtain ⟨t166, A540, H⟩ := H
     replace H : (some (t166 == (wrap64 (a2)))) = some r := H
     have A54 := Aside0.mk A540
     clear A540
     obtain rfl := Option.some.inj H
     try go_wp2
     have n0_ := Aside0.mk (blk_drew BK153.out)
     have n1_ := Aside0.mk (blk_drew BK161.out)
     have n2_ := Aside0.mk (below_drew1 HB.out)
     clear BK153
     clear BK161
     clear HB
     have BK153 := n0_
     have BK161 := n1_
     have HB := n2_
     clear n0_ n1_ n2_
     refine start_ (n := 70) (S := fun w' => w'.cell? ⟨gb153, 0, none⟩ = some (.int .i64 t148) ∧ w'.cell? ⟨gb153, 1, none⟩ = some (.int .i64 t149) ∧ w'.cell? ⟨gb153, 2, none⟩ = some (.int .i64 t150) ∧ w'.cell? ⟨gb153, 3, none⟩ = some (.int .i64 t151) ∧ w'.cell? ⟨gb161, 0, none⟩ = some (.int .i64 t156) ∧ w'.cell? ⟨gb161, 1, none⟩ = some (.int .i64 t157) ∧ w'.cell? ⟨gb161, 2, none⟩ = some (.int .i64 t158) ∧ w'.cell? ⟨gb161, 3, none⟩ = some (.int .i64 t159)) (ds := []) (HX 70 0) zk rfl rfl ⟨(blk_cell BK153.out 0).trans rfl, (blk_cell BK153.out 1).trans rfl, (blk_cell BK153.out 2).trans rfl, (blk_cell BK153.out 3).trans rfl, (blk_cell BK161.out 0).trans rfl, (blk_cell BK161.out 1).trans rfl, (blk_cell BK161.out 2).trans rfl, (blk_cell BK161.out 3).trans rfl⟩ (fun hHeld => ?_); refine with_tabW soundservicelaw05_GainMoves.tab8 soundservicelaw05_GainMoves.bits8 (fun HT_ HW_ => ?_)
     generalize wc.drew = w55 at BK153 BK161 HB hHeld ⊢
     refine zP 0 51 1 HT_ rfl rfl ?_
     refine zP 1 52 3 HT_ rfl rfl ?_
     refine zP 2 53 7 HT_ rfl rfl ?_
     refine zP 3 54 15 HT_ rfl rfl ?_
     refine zP 4 55 31 HT_ rfl rfl ?_
     refine zP 5 56 63 HT_ rfl rfl ?_
     refine zP 6 57 127 HT_ rfl rfl ?_
     refine zP 7 58 255 HT_ rfl rfl ?_
     refine zP 8 59 511 HT_ rfl rfl ?_
     refine zP 9 60 1023 HT_ rfl rfl ?_
     refine zP 11 62 3071 HT_ rfl rfl ?_
     refine zP 14 65 19455 HT_ rfl rfl ?_
     refine zP 16 67 84991 HT_ rfl rfl ?_
     refine zQ 10 61 86015 HT_ HW_ hHeld rfl rfl ?_
     refine zQ 12 63 90111 HT_ HW_ hHeld rfl rfl ?_
     refine zP 13 64 98303 HT_ rfl rfl ?_
     refine zQ 15 66 131071 HT_ HW_ hHeld rfl rfl ?_
     refine zQ 17 68 262143 HT_ HW_ hHeld rfl rfl ?_
     refine zP 18 69 524287 HT_ rfl rfl ?_
     refine zP 19 70 1048575 HT_ rfl rfl ?_
     refine zO 20 71 2097151 HT_ rfl rfl ?_
     refine zO 21 72 4194303 HT_ rfl rfl ?_
     refine zO 22 73 8388607 HT_ rfl rfl ?_
     refine zO 23 74 16777215 HT_ rfl rfl ?_
     refine zO 24 75 33554431 HT_ rfl rfl ?_
     refine zO 25 76 67108863 HT_ rfl rfl ?_
     refine zO 26 77 134217727 HT_ rfl rfl ?_
     refine zO 27 78 268435455 HT_ rfl rfl ?_
     refine zO 28 79 536870911 HT_ rfl rfl ?_
     refine zO 29 80 1073741823 HT_ rfl rfl ?_
     refine zP 30 81 2147483647 HT_ rfl rfl ?_
     refine zP 31 82 4294967295 HT_ rfl rfl ?_
     refine zP 32 83 8589934591 HT_ rfl rfl ?_
     refine zP 33 84 17179869183 HT_ rfl rfl ?_
     refine zP 34 85 34359738367 HT_ rfl rfl ?_
     refine zP 36 87 103079215103 HT_ rfl rfl ?_
     refine zQ 35 86 137438953471 HT_ HW_ hHeld rfl rfl ?_
     refine zQ 37 88 274877906943 HT_ HW_ hHeld rfl rfl ?_
     refine zP 38 89 549755813887 HT_ rfl rfl ?_
     refine zP 39 90 1099511627775 HT_ rfl rfl ?_
     refine zP 40 91 2199023255551 HT_ rfl rfl ?_
     refine zP 41 92 4398046511103 HT_ rfl rfl ?_
     refine zP 42 93 8796093022207 HT_ rfl rfl ?_
     refine zP 43 94 17592186044415 HT_ rfl rfl ?_
     refine zP 44 95 35184372088831 HT_ rfl rfl ?_
     refine zP 45 96 70368744177663 HT_ rfl rfl ?_
     refine zP 46 97 140737488355327 HT_ rfl rfl ?_
     refine zP 47 98 281474976710655 HT_ rfl rfl ?_
     refine zP 48 99 562949953421311 HT_ rfl rfl ?_
     refine zP 49 100 1125899906842623 HT_ rfl rfl ?_
     refine zP 50 101 2251799813685247 HT_ rfl rfl ?_
     refine zP 51 102 4503599627370495 HT_ rfl rfl ?_
     refine zP 52 103 9007199254740991 HT_ rfl rfl ?_
     refine zO 53 104 18014398509481983 HT_ rfl rfl ?_
     refine zO 54 105 36028797018963967 HT_ rfl rfl ?_
     refine zO 55 106 72057594037927935 HT_ rfl rfl ?_
     refine zO 56 107 144115188075855871 HT_ rfl rfl ?_
     refine zO 57 108 288230376151711743 HT_ rfl rfl ?_
     refine zP 58 109 576460752303423487 HT_ rfl rfl ?_
     refine zP 59 110 1152921504606846975 HT_ rfl rfl ?_
     refine zP 60 111 2305843009213693951 HT_ rfl rfl ?_
     refine zP 62 113 6917529027641081855 HT_ rfl rfl ?_
     refine zP 63 114 16140901064495857663 HT_ rfl rfl ?_
     refine zP 65 116 53034389211914960895 HT_ rfl rfl ?_
     refine zP 66 117 126821365506753167359 HT_ rfl rfl ?_
     refine zQ 61 112 129127208515966861311 HT_ HW_ hHeld rfl rfl ?_
     refine one_ (i := 64) (N := some 115) (HX 70 147573952589676412927) rfl rfl (one_of HT_.out zk) (by decide) (fun K hK => ?_)
     refine goes_ Try.func22 zk rfl #[.agg #[.int .i64 t156, .int .i64 t157, .int .i64 t158, .int .i64 t159], .int .i64 (wrap64 (a3))] (by rfl) rfl rfl zA ?_
     with_reducible refine (gain_At.calls t156 t157 t158 t159 (wrap64 (a3)) t166 _ A54.out).mono ?_
     rintro e w56 ⟨rfl, hb⟩
     refine ⟨_, rfl, ?_⟩
     have n0_ := Aside0.mk (blk_below (zB BK153) hb)
     have n1_ := Aside0.mk (blk_below (zB BK161) hb)
     have n2_ := Aside0.mk (below_step (zW HB) hb)
     clear BK153
     clear BK161
     clear HB
     have BK153 := n0_
     have BK161 := n1_
     have HB := n2_
     clear n0_ n1_ n2_
     (try clear hb)
     (try clear hb2)
     (try clear hk)
     (try clear hi)
     (try clear hgw)
     refine hK.out _ _ ⟨(blk_cell BK153.out 0).trans rfl, (blk_cell BK153.out 1).trans rfl, (blk_cell BK153.out 2).trans rfl, (blk_cell BK153.out 3).trans rfl, (blk_cell BK161.out 0).trans rfl, (blk_cell BK161.out 1).trans rfl, (blk_cell BK161.out 2).trans rfl, (blk_cell BK161.out 3).trans rfl⟩ (fun hHeld => ?_)
     clear hK K
     refine norm_ (a' := ?_) ?_ ?_
     rotate_left
     ·show Act.put _ (some 115) _ = _
      simp only [Act.put, List.setIfInBounds_toArray, List.set_cons_zero, List.set_cons_succ, i64_w, i32_w]
      rfl
     refine zP 67 118 295147905179352825855 HT_ rfl rfl ?_
     refine zP 68 119 590295810358705651711 HT_ rfl rfl ?_
     refine zP 69 8 1180591620717411303423 HT_ rfl rfl ?_
     refine done_ (done_of HT_.out zk) ?_
     try go_wp2
     go_ret
     exact ⟨zX, zW HB⟩
    rw [if_neg c53] at H
    have c53b0 : (a3 == 0) = false := beq_eq_false_iff_ne.mpr c53
    have c53b1 : (a3 != 0) = true := bne_iff_ne.mpr c53
    replace H := Option.bind_eq_some_iff.mp H
    obtain ⟨t167, A570, H⟩ := H
    replace H : ((gain_At.f t148 t149 t150 t151 0).bind fun t168 => (if t167 = t168 then ((gain_At.f t156 t157 t158 t159 (wrap64 (a3))).bind fun t169 => (some (t169 == (wrap64 (a2))))) else (some false))) = some r := H
    have A57 := Aside0.mk A570
    clear A570
    replace H := Option.bind_eq_some_iff.mp H
    obtain ⟨t168, A580, H⟩ := H
    replace H : (if t167 = t168 then ((gain_At.f t156 t157 t158 t159 (wrap64 (a3))).bind fun t169 => (some (t169 == (wrap64 (a2))))) else (some false)) = some r := H
    have A58 := Aside0.mk A580
    clear A580
    by_cases c59 : t167 = t168
    rotate_left
    ·rw [if_neg c59] at H
     have c59b0 : (t167 == t168) = false := beq_eq_false_iff_ne.mpr c59
     have c59b1 : (t167 != t168) = true := bne_iff_ne.mpr c59
     exact absurd (H.trans (congrArg some HR_.out)) (by simp)
    rw [if_pos c59] at H
    have c59b0 : (t167 == t168) = true := beq_iff_eq.mpr c59
    have c59b1 : (t167 != t168) = false := bne_eq_false_iff_eq.mpr c59
    clear c59
    replace H := Option.bind_eq_some_iff.mp H
    obtain ⟨t169, A600, H⟩ := H
    replace H : (some (t169 == (wrap64 (a2)))) = some r := H
    have A60 := Aside0.mk A600
    clear A600
    obtain rfl := Option.some.inj H
    try go_wp2
    have n0_ := Aside0.mk (blk_drew BK153.out)
    have n1_ := Aside0.mk (blk_drew BK161.out)
    have n2_ := Aside0.mk (below_drew1 HB.out)
    clear BK153
    clear BK161
    clear HB
    have BK153 := n0_
    have BK161 := n1_
    have HB := n2_
    clear n0_ n1_ n2_
    refine start_ (n := 70) (S := fun w' => w'.cell? ⟨gb153, 0, none⟩ = some (.int .i64 t148) ∧ w'.cell? ⟨gb153, 1, none⟩ = some (.int .i64 t149) ∧ w'.cell? ⟨gb153, 2, none⟩ = some (.int .i64 t150) ∧ w'.cell? ⟨gb153, 3, none⟩ = some (.int .i64 t151) ∧ w'.cell? ⟨gb161, 0, none⟩ = some (.int .i64 t156) ∧ w'.cell? ⟨gb161, 1, none⟩ = some (.int .i64 t157) ∧ w'.cell? ⟨gb161, 2, none⟩ = some (.int .i64 t158) ∧ w'.cell? ⟨gb161, 3, none⟩ = some (.int .i64 t159)) (ds := []) (HX 70 0) zk rfl rfl ⟨(blk_cell BK153.out 0).trans rfl, (blk_cell BK153.out 1).trans rfl, (blk_cell BK153.out 2).trans rfl, (blk_cell BK153.out 3).trans rfl, (blk_cell BK161.out 0).trans rfl, (blk_cell BK161.out 1).trans rfl, (blk_cell BK161.out 2).trans rfl, (blk_cell BK161.out 3).trans rfl⟩ (fun hHeld => ?_); refine with_tabW soundservicelaw05_GainMoves.tab8 soundservicelaw05_GainMoves.bits8 (fun HT_ HW_ => ?_)
    generalize wc.drew = w61 at BK153 BK161 HB hHeld ⊢
    refine zP 0 51 1 HT_ rfl rfl ?_
    refine zP 1 52 3 HT_ rfl rfl ?_
    refine zP 2 53 7 HT_ rfl rfl ?_
    refine zP 3 54 15 HT_ rfl rfl ?_
    refine zP 4 55 31 HT_ rfl rfl ?_
    refine zP 5 56 63 HT_ rfl rfl ?_
    refine zP 6 57 127 HT_ rfl rfl ?_
    refine zP 7 58 255 HT_ rfl rfl ?_
    refine zP 8 59 511 HT_ rfl rfl ?_
    refine zP 9 60 1023 HT_ rfl rfl ?_
    refine zP 11 62 3071 HT_ rfl rfl ?_
    refine zP 14 65 19455 HT_ rfl rfl ?_
    refine zP 16 67 84991 HT_ rfl rfl ?_
    refine zQ 10 61 86015 HT_ HW_ hHeld rfl rfl ?_
    refine zQ 12 63 90111 HT_ HW_ hHeld rfl rfl ?_
    refine zP 13 64 98303 HT_ rfl rfl ?_
    refine zQ 15 66 131071 HT_ HW_ hHeld rfl rfl ?_
    refine zQ 17 68 262143 HT_ HW_ hHeld rfl rfl ?_
    refine zP 18 69 524287 HT_ rfl rfl ?_
    refine zP 19 70 1048575 HT_ rfl rfl ?_
    refine zO 20 71 2097151 HT_ rfl rfl ?_
    refine zO 21 72 4194303 HT_ rfl rfl ?_
    refine zO 22 73 8388607 HT_ rfl rfl ?_
    refine zO 23 74 16777215 HT_ rfl rfl ?_
    refine zO 24 75 33554431 HT_ rfl rfl ?_
    refine zO 25 76 67108863 HT_ rfl rfl ?_
    refine zO 26 77 134217727 HT_ rfl rfl ?_
    refine zO 27 78 268435455 HT_ rfl rfl ?_
    refine zO 28 79 536870911 HT_ rfl rfl ?_
    refine zO 29 80 1073741823 HT_ rfl rfl ?_
    refine zP 30 81 2147483647 HT_ rfl rfl ?_
    refine zP 31 82 4294967295 HT_ rfl rfl ?_
    refine zP 32 83 8589934591 HT_ rfl rfl ?_
    refine zP 33 84 17179869183 HT_ rfl rfl ?_
    refine zP 34 85 34359738367 HT_ rfl rfl ?_
    refine zP 36 87 103079215103 HT_ rfl rfl ?_
    refine zQ 35 86 137438953471 HT_ HW_ hHeld rfl rfl ?_
    refine zQ 37 88 274877906943 HT_ HW_ hHeld rfl rfl ?_
    refine zP 38 89 549755813887 HT_ rfl rfl ?_
    refine zP 39 90 1099511627775 HT_ rfl rfl ?_
    refine zP 40 91 2199023255551 HT_ rfl rfl ?_
    refine zP 41 92 4398046511103 HT_ rfl rfl ?_
    refine zP 42 93 8796093022207 HT_ rfl rfl ?_
    refine zP 43 94 17592186044415 HT_ rfl rfl ?_
    refine zP 44 95 35184372088831 HT_ rfl rfl ?_
    refine zP 45 96 70368744177663 HT_ rfl rfl ?_
    refine zP 46 97 140737488355327 HT_ rfl rfl ?_
    refine zP 47 98 281474976710655 HT_ rfl rfl ?_
    refine zP 48 99 562949953421311 HT_ rfl rfl ?_
    refine zP 49 100 1125899906842623 HT_ rfl rfl ?_
    refine zP 50 101 2251799813685247 HT_ rfl rfl ?_
    refine zP 51 102 4503599627370495 HT_ rfl rfl ?_
    refine zP 52 103 9007199254740991 HT_ rfl rfl ?_
    refine zQ 53 104 18014398509481983 HT_ HW_ hHeld rfl rfl ?_
    refine zQ 55 106 54043195528445951 HT_ HW_ hHeld rfl rfl ?_
    refine one_ (i := 54) (N := some 105) (HX 70 72057594037927935) rfl rfl (one_of HT_.out zk) (by decide) (fun K hK => ?_)
    refine goes_ Try.func22 zk rfl #[.agg #[.int .i64 t156, .int .i64 t157, .int .i64 t158, .int .i64 t159], .int .i64 0] (by rfl) rfl rfl zA ?_
    with_reducible refine (gain_At.calls t156 t157 t158 t159 0 t167 _ A57.out).mono ?_
    rintro e w62 ⟨rfl, hb⟩
    refine ⟨_, rfl, ?_⟩
    have n0_ := Aside0.mk (blk_below (zB BK153) hb)
    have n1_ := Aside0.mk (blk_below (zB BK161) hb)
    have n2_ := Aside0.mk (below_step (zW HB) hb)
    clear BK153
    clear BK161
    clear HB
    have BK153 := n0_
    have BK161 := n1_
    have HB := n2_
    clear n0_ n1_ n2_
    (try clear hb)
    (try clear hb2)
    (try clear hk)
    (try clear hi)
    (try clear hgw)
    refine hK.out _ _ ⟨(blk_cell BK153.out 0).trans rfl, (blk_cell BK153.out 1).trans rfl, (blk_cell BK153.out 2).trans rfl, (blk_cell BK153.out 3).trans rfl, (blk_cell BK161.out 0).trans rfl, (blk_cell BK161.out 1).trans rfl, (blk_cell BK161.out 2).trans rfl, (blk_cell BK161.out 3).trans rfl⟩ (fun hHeld => ?_)
    clear hK K
    refine norm_ (a' := ?_) ?_ ?_
    rotate_left
    ·show Act.put _ (some 105) _ = _
     simp only [Act.put, List.setIfInBounds_toArray, List.set_cons_zero, List.set_cons_succ, i64_w, i32_w]
     rfl
    refine one_ (i := 56) (N := some 107) (HX 70 144115188075855871) rfl rfl (one_of HT_.out zk) (by decide) (fun K hK => ?_)
    refine goes_ Try.func22 zk rfl #[.agg #[.int .i64 t148, .int .i64 t149, .int .i64 t150, .int .i64 t151], .int .i64 0] (by rfl) rfl rfl zA ?_
    with_reducible refine (gain_At.calls t148 t149 t150 t151 0 t168 _ A58.out).mono ?_
    rintro e w63 ⟨rfl, hb⟩
    refine ⟨_, rfl, ?_⟩
    have n0_ := Aside0.mk (blk_below (zB BK153) hb)
    have n1_ := Aside0.mk (blk_below (zB BK161) hb)
    have n2_ := Aside0.mk (below_step (zW HB) hb)
    clear BK153
    clear BK161
    clear HB
    have BK153 := n0_
    have BK161 := n1_
    have HB := n2_
    clear n0_ n1_ n2_
    (try clear hb)
    (try clear hb2)
    (try clear hk)
    (try clear hi)
    (try clear hgw)
    refine hK.out _ _ ⟨(blk_cell BK153.out 0).trans rfl, (blk_cell BK153.out 1).trans rfl, (blk_cell BK153.out 2).trans rfl, (blk_cell BK153.out 3).trans rfl, (blk_cell BK161.out 0).trans rfl, (blk_cell BK161.out 1).trans rfl, (blk_cell BK161.out 2).trans rfl, (blk_cell BK161.out 3).trans rfl⟩ (fun hHeld => ?_)
    clear hK K
    refine norm_ (a' := ?_) ?_ ?_
    rotate_left
    ·show Act.put _ (some 107) _ = _
     simp only [Act.put, List.setIfInBounds_toArray, List.set_cons_zero, List.set_cons_succ, i64_w, i32_w]
     rfl
    refine zP 57 108 288230376151711743 HT_ rfl rfl ?_
    refine zP 58 109 576460752303423487 HT_ rfl rfl ?_
    refine zP 59 110 1152921504606846975 HT_ rfl rfl ?_
    refine zP 60 111 2305843009213693951 HT_ rfl rfl ?_
    refine zP 62 113 6917529027641081855 HT_ rfl rfl ?_
    refine zP 63 114 16140901064495857663 HT_ rfl rfl ?_
    refine zP 65 116 53034389211914960895 HT_ rfl rfl ?_
    refine zP 66 117 126821365506753167359 HT_ rfl rfl ?_
    refine zQ 61 112 129127208515966861311 HT_ HW_ hHeld rfl rfl ?_
    refine one_ (i := 64) (N := some 115) (HX 70 147573952589676412927) rfl rfl (one_of HT_.out zk) (by decide) (fun K hK => ?_)
    refine goes_ Try.func22 zk rfl #[.agg #[.int .i64 t156, .int .i64 t157, .int .i64 t158, .int .i64 t159], .int .i64 (wrap64 (a3))] (by rfl) rfl rfl zA ?_
    with_reducible refine (gain_At.calls t156 t157 t158 t159 (wrap64 (a3)) t169 _ A60.out).mono ?_
    rintro e w64 ⟨rfl, hb⟩
    refine ⟨_, rfl, ?_⟩
    have n0_ := Aside0.mk (blk_below (zB BK153) hb)
    have n1_ := Aside0.mk (blk_below (zB BK161) hb)
    have n2_ := Aside0.mk (below_step (zW HB) hb)
    clear BK153
    clear BK161
    clear HB
    have BK153 := n0_
    have BK161 := n1_
    have HB := n2_
    clear n0_ n1_ n2_
    (try clear hb)
    (try clear hb2)
    (try clear hk)
    (try clear hi)
    (try clear hgw)
    refine hK.out _ _ ⟨(blk_cell BK153.out 0).trans rfl, (blk_cell BK153.out 1).trans rfl, (blk_cell BK153.out 2).trans rfl, (blk_cell BK153.out 3).trans rfl, (blk_cell BK161.out 0).trans rfl, (blk_cell BK161.out 1).trans rfl, (blk_cell BK161.out 2).trans rfl, (blk_cell BK161.out 3).trans rfl⟩ (fun hHeld => ?_)
    clear hK K
    refine norm_ (a' := ?_) ?_ ?_
    rotate_left
    ·show Act.put _ (some 115) _ = _
     simp only [Act.put, List.setIfInBounds_toArray, List.set_cons_zero, List.set_cons_succ, i64_w, i32_w]
     rfl
    refine zP 67 118 295147905179352825855 HT_ rfl rfl ?_
    refine zP 68 119 590295810358705651711 HT_ rfl rfl ?_
    refine zP 69 8 1180591620717411303423 HT_ rfl rfl ?_
    refine done_ (done_of HT_.out zk) ?_
    try go_wp2
    go_ret
    exact ⟨zX, zW HB⟩
   rw [if_neg c35] at H
   have c35b0 : (t149 == t148) = false := beq_eq_false_iff_ne.mpr c35
   have c35b1 : (t149 != t148) = true := bne_iff_ne.mpr c35
   by_cases c65 : t155 ≥ t154
   rotate_left
   ·rw [if_neg c65] at H
    have c65b0 : decide (t154 ≤ t155) = false := decide_eq_false c65
    clear c65
    by_cases c95 : ((decide (t149 ≥ t148)) == false) = true
    rotate_left
    ·rw [if_neg c95] at H
     have c95b0 : ((decide (t149 ≥ t148)) == false) = false := by simpa using c95
     (try (have c95b1 : decide ((decide (t149 ≥ t148)) = false) = false := by simpa using c95))
     (try (have c95b2 : ((decide (t149 ≥ t148)) == false) = false := by simpa using c95))
     (try (have c95b3 : ¬ ((decide (t149 ≥ t148)) = false) := by simpa using c95))
     clear c95
     exact absurd (H.trans (congrArg some HR_.out)) (by simp)
    rw [if_pos c95] at H
    have c95b0 : ((decide (t149 ≥ t148)) == false) = true := c95
    (try (have c95b1 : decide ((decide (t149 ≥ t148)) = false) = true := by simpa using c95))
    (try (have c95b2 : ((decide (t149 ≥ t148)) == false) = true := by simpa using c95))
    clear c95
    by_cases c96 : t149 > t148
    ·exact absurd (of_decide_eq_false (beq_iff_eq.mp c95b0)) (by omega)
    rw [if_neg c96] at H
    have c96b0 : decide (t148 < t149) = false := decide_eq_false c96
    clear c96
    by_cases c110 : t155 ≤ t154
    rotate_left
    ·rw [if_neg c110] at H
     have c110b0 : decide (t155 ≤ t154) = false := decide_eq_false c110
     clear c110
     exact absurd (H.trans (congrArg some HR_.out)) (by simp)
    rw [if_pos c110] at H
    have c110b0 : decide (t155 ≤ t154) = true := decide_eq_true c110
    clear c110
    by_cases c111 : t160 = 0
    rotate_left
    ·rw [if_neg c111] at H
     have c111b0 : (t160 == 0) = false := beq_eq_false_iff_ne.mpr c111
     have c111b1 : (t160 != 0) = true := bne_iff_ne.mpr c111
     exact absurd (H.trans (congrArg some HR_.out)) (by simp)
    rw [if_pos c111] at H
    have c111b0 : (t160 == 0) = true := beq_iff_eq.mpr c111
    have c111b1 : (t160 != 0) = false := bne_eq_false_iff_eq.mpr c111
    clear c111
    by_cases c112 : a3 = 0
    ·rw [if_pos c112] at H
     have c112b0 : (a3 == 0) = true := beq_iff_eq.mpr c112
     have c112b1 : (a3 != 0) = false := bne_eq_false_iff_eq.mpr c112
     clear c112
     replace H := Option.bind_eq_some_iff.mp H
     obtain ⟨t182, A1130, H⟩ := H
     replace H : (some (t182 == (wrap64 (a2)))) = some r := H
     have A113 := Aside0.mk A1130
     clear A1130
     obtain rfl := Option.some.inj H
     try go_wp2
     have n0_ := Aside0.mk (blk_drew BK153.out)
     have n1_ := Aside0.mk (blk_drew BK161.out)
     have n2_ := Aside0.mk (below_drew1 HB.out)
     clear BK153
     clear BK161
     clear HB
     have BK153 := n0_
     have BK161 := n1_
     have HB := n2_
     clear n0_ n1_ n2_
     refine start_ (n := 70) (S := fun w' => w'.cell? ⟨gb153, 0, none⟩ = some (.int .i64 t148) ∧ w'.cell? ⟨gb153, 1, none⟩ = some (.int .i64 t149) ∧ w'.cell? ⟨gb153, 2, none⟩ = some (.int .i64 t150) ∧ w'.cell? ⟨gb153, 3, none⟩ = some (.int .i64 t151) ∧ w'.cell? ⟨gb161, 0, none⟩ = some (.int .i64 t156) ∧ w'.cell? ⟨gb161, 1, none⟩ = some (.int .i64 t157) ∧ w'.cell? ⟨gb161, 2, none⟩ = some (.int .i64 t158) ∧ w'.cell? ⟨gb161, 3, none⟩ = some (.int .i64 t159)) (ds := []) (HX 70 0) zk rfl rfl ⟨(blk_cell BK153.out 0).trans rfl, (blk_cell BK153.out 1).trans rfl, (blk_cell BK153.out 2).trans rfl, (blk_cell BK153.out 3).trans rfl, (blk_cell BK161.out 0).trans rfl, (blk_cell BK161.out 1).trans rfl, (blk_cell BK161.out 2).trans rfl, (blk_cell BK161.out 3).trans rfl⟩ (fun hHeld => ?_); refine with_tabW soundservicelaw05_GainMoves.tab8 soundservicelaw05_GainMoves.bits8 (fun HT_ HW_ => ?_)
     generalize wc.drew = w114 at BK153 BK161 HB hHeld ⊢
     refine zP 0 51 1 HT_ rfl rfl ?_
     refine zP 1 52 3 HT_ rfl rfl ?_
     refine zP 2 53 7 HT_ rfl rfl ?_
     refine zP 3 54 15 HT_ rfl rfl ?_
     refine zP 4 55 31 HT_ rfl rfl ?_
     refine zP 5 56 63 HT_ rfl rfl ?_
     refine zP 6 57 127 HT_ rfl rfl ?_
     refine zP 7 58 255 HT_ rfl rfl ?_
     refine zP 8 59 511 HT_ rfl rfl ?_
     refine zP 9 60 1023 HT_ rfl rfl ?_
     refine zP 11 62 3071 HT_ rfl rfl ?_
     refine zP 14 65 19455 HT_ rfl rfl ?_
     refine zP 16 67 84991 HT_ rfl rfl ?_
     refine zQ 10 61 86015 HT_ HW_ hHeld rfl rfl ?_
     refine zQ 12 63 90111 HT_ HW_ hHeld rfl rfl ?_
     refine zP 13 64 98303 HT_ rfl rfl ?_
     refine zQ 15 66 131071 HT_ HW_ hHeld rfl rfl ?_
     refine zQ 17 68 262143 HT_ HW_ hHeld rfl rfl ?_
     refine zP 18 69 524287 HT_ rfl rfl ?_
     refine zP 19 70 1048575 HT_ rfl rfl ?_
     refine zP 20 71 2097151 HT_ rfl rfl ?_
     refine zP 21 72 4194303 HT_ rfl rfl ?_
     refine zP 22 73 8388607 HT_ rfl rfl ?_
     refine zP 23 74 16777215 HT_ rfl rfl ?_
     refine zO 24 75 33554431 HT_ rfl rfl ?_
     refine zO 25 76 67108863 HT_ rfl rfl ?_
     refine zO 26 77 134217727 HT_ rfl rfl ?_
     refine zO 27 78 268435455 HT_ rfl rfl ?_
     refine zO 28 79 536870911 HT_ rfl rfl ?_
     refine zP 29 80 1073741823 HT_ rfl rfl ?_
     refine zP 30 81 2147483647 HT_ rfl rfl ?_
     refine zP 31 82 4294967295 HT_ rfl rfl ?_
     refine zP 32 83 8589934591 HT_ rfl rfl ?_
     refine zP 33 84 17179869183 HT_ rfl rfl ?_
     refine zP 34 85 34359738367 HT_ rfl rfl ?_
     refine zP 36 87 103079215103 HT_ rfl rfl ?_
     refine zQ 35 86 137438953471 HT_ HW_ hHeld rfl rfl ?_
     refine zQ 37 88 274877906943 HT_ HW_ hHeld rfl rfl ?_
     refine zP 38 89 549755813887 HT_ rfl rfl ?_
     refine zP 39 90 1099511627775 HT_ rfl rfl ?_
     refine zP 40 91 2199023255551 HT_ rfl rfl ?_
     refine zP 41 92 4398046511103 HT_ rfl rfl ?_
     refine zP 42 93 8796093022207 HT_ rfl rfl ?_
     refine zP 43 94 17592186044415 HT_ rfl rfl ?_
     refine zP 44 95 35184372088831 HT_ rfl rfl ?_
     refine zP 45 96 70368744177663 HT_ rfl rfl ?_
     refine zP 46 97 140737488355327 HT_ rfl rfl ?_
     refine zP 47 98 281474976710655 HT_ rfl rfl ?_
     refine zP 48 99 562949953421311 HT_ rfl rfl ?_
     refine zP 49 100 1125899906842623 HT_ rfl rfl ?_
     refine zP 50 101 2251799813685247 HT_ rfl rfl ?_
     refine zP 51 102 4503599627370495 HT_ rfl rfl ?_
     refine zP 52 103 9007199254740991 HT_ rfl rfl ?_
     refine zO 53 104 18014398509481983 HT_ rfl rfl ?_
     refine zO 54 105 36028797018963967 HT_ rfl rfl ?_
     refine zO 55 106 72057594037927935 HT_ rfl rfl ?_
     refine zO 56 107 144115188075855871 HT_ rfl rfl ?_
     refine zO 57 108 288230376151711743 HT_ rfl rfl ?_
     refine zP 58 109 576460752303423487 HT_ rfl rfl ?_
     refine zP 59 110 1152921504606846975 HT_ rfl rfl ?_
     refine zP 60 111 2305843009213693951 HT_ rfl rfl ?_
     refine zP 62 113 6917529027641081855 HT_ rfl rfl ?_
     refine zP 63 114 16140901064495857663 HT_ rfl rfl ?_
     refine zP 65 116 53034389211914960895 HT_ rfl rfl ?_
     refine zP 66 117 126821365506753167359 HT_ rfl rfl ?_
     refine zQ 61 112 129127208515966861311 HT_ HW_ hHeld rfl rfl ?_
     refine one_ (i := 64) (N := some 115) (HX 70 147573952589676412927) rfl rfl (one_of HT_.out zk) (by decide) (fun K hK => ?_)
     refine goes_ Try.func22 zk rfl #[.agg #[.int .i64 t156, .int .i64 t157, .int .i64 t158, .int .i64 t159], .int .i64 (wrap64 (a3))] (by rfl) rfl rfl zA ?_
     with_reducible refine (gain_At.calls t156 t157 t158 t159 (wrap64 (a3)) t182 _ A113.out).mono ?_
     rintro e w115 ⟨rfl, hb⟩
     refine ⟨_, rfl, ?_⟩
     have n0_ := Aside0.mk (blk_below (zB BK153) hb)
     have n1_ := Aside0.mk (blk_below (zB BK161) hb)
     have n2_ := Aside0.mk (below_step (zW HB) hb)
     clear BK153
     clear BK161
     clear HB
     have BK153 := n0_
     have BK161 := n1_
     have HB := n2_
     clear n0_ n1_ n2_
     (try clear hb)
     (try clear hb2)
     (try clear hk)
     (try clear hi)
     (try clear hgw)
     refine hK.out _ _ ⟨(blk_cell BK153.out 0).trans rfl, (blk_cell BK153.out 1).trans rfl, (blk_cell BK153.out 2).trans rfl, (blk_cell BK153.out 3).trans rfl, (blk_cell BK161.out 0).trans rfl, (blk_cell BK161.out 1).trans rfl, (blk_cell BK161.out 2).trans rfl, (blk_cell BK161.out 3).trans rfl⟩ (fun hHeld => ?_)
     clear hK K
     refine norm_ (a' := ?_) ?_ ?_
     rotate_left
     ·show Act.put _ (some 115) _ = _
      simp only [Act.put, List.setIfInBounds_toArray, List.set_cons_zero, List.set_cons_succ, i64_w, i32_w]
      rfl
     refine zP 67 118 295147905179352825855 HT_ rfl rfl ?_
     refine zP 68 119 590295810358705651711 HT_ rfl rfl ?_
     refine zP 69 8 1180591620717411303423 HT_ rfl rfl ?_
     refine done_ (done_of HT_.out zk) ?_
     try go_wp2
     go_ret
     exact ⟨zX, zW HB⟩
    rw [if_neg c112] at H
    have c112b0 : (a3 == 0) = false := beq_eq_false_iff_ne.mpr c112
    have c112b1 : (a3 != 0) = true := bne_iff_ne.mpr c112
    replace H := Option.bind_eq_some_iff.mp H
    obtain ⟨t183, A1160, H⟩ := H
    replace H : ((gain_At.f t148 t149 t150 t151 0).bind fun t184 => (if t183 = t184 then ((gain_At.f t156 t157 t158 t159 (wrap64 (a3))).bind fun t185 => (some (t185 == (wrap64 (a2))))) else (some false))) = some r := H
    have A116 := Aside0.mk A1160
    clear A1160
    replace H := Option.bind_eq_some_iff.mp H
    obtain ⟨t184, A1170, H⟩ := H
    replace H : (if t183 = t184 then ((gain_At.f t156 t157 t158 t159 (wrap64 (a3))).bind fun t185 => (some (t185 == (wrap64 (a2))))) else (some false)) = some r := H
    have A117 := Aside0.mk A1170
    clear A1170
    by_cases c118 : t183 = t184
    rotate_left
    ·rw [if_neg c118] at H
     have c118b0 : (t183 == t184) = false := beq_eq_false_iff_ne.mpr c118
     have c118b1 : (t183 != t184) = true := bne_iff_ne.mpr c118
     exact absurd (H.trans (congrArg some HR_.out)) (by simp)
    rw [if_pos c118] at H
    have c118b0 : (t183 == t184) = true := beq_iff_eq.mpr c118
    have c118b1 : (t183 != t184) = false := bne_eq_false_iff_eq.mpr c118
    clear c118
    replace H := Option.bind_eq_some_iff.mp H
    obtain ⟨t185, A1190, H⟩ := H
    replace H : (some (t185 == (wrap64 (a2)))) = some r := H
    have A119 := Aside0.mk A1190
    clear A1190
    obtain rfl := Option.some.inj H
    try go_wp2
    have n0_ := Aside0.mk (blk_drew BK153.out)
    have n1_ := Aside0.mk (blk_drew BK161.out)
    have n2_ := Aside0.mk (below_drew1 HB.out)
    clear BK153
    clear BK161
    clear HB
    have BK153 := n0_
    have BK161 := n1_
    have HB := n2_
    clear n0_ n1_ n2_
    refine start_ (n := 70) (S := fun w' => w'.cell? ⟨gb153, 0, none⟩ = some (.int .i64 t148) ∧ w'.cell? ⟨gb153, 1, none⟩ = some (.int .i64 t149) ∧ w'.cell? ⟨gb153, 2, none⟩ = some (.int .i64 t150) ∧ w'.cell? ⟨gb153, 3, none⟩ = some (.int .i64 t151) ∧ w'.cell? ⟨gb161, 0, none⟩ = some (.int .i64 t156) ∧ w'.cell? ⟨gb161, 1, none⟩ = some (.int .i64 t157) ∧ w'.cell? ⟨gb161, 2, none⟩ = some (.int .i64 t158) ∧ w'.cell? ⟨gb161, 3, none⟩ = some (.int .i64 t159)) (ds := []) (HX 70 0) zk rfl rfl ⟨(blk_cell BK153.out 0).trans rfl, (blk_cell BK153.out 1).trans rfl, (blk_cell BK153.out 2).trans rfl, (blk_cell BK153.out 3).trans rfl, (blk_cell BK161.out 0).trans rfl, (blk_cell BK161.out 1).trans rfl, (blk_cell BK161.out 2).trans rfl, (blk_cell BK161.out 3).trans rfl⟩ (fun hHeld => ?_); refine with_tabW soundservicelaw05_GainMoves.tab8 soundservicelaw05_GainMoves.bits8 (fun HT_ HW_ => ?_)
    generalize wc.drew = w120 at BK153 BK161 HB hHeld ⊢
    refine zP 0 51 1 HT_ rfl rfl ?_
    refine zP 1 52 3 HT_ rfl rfl ?_
    refine zP 2 53 7 HT_ rfl rfl ?_
    refine zP 3 54 15 HT_ rfl rfl ?_
    refine zP 4 55 31 HT_ rfl rfl ?_
    refine zP 5 56 63 HT_ rfl rfl ?_
    refine zP 6 57 127 HT_ rfl rfl ?_
    refine zP 7 58 255 HT_ rfl rfl ?_
    refine zP 8 59 511 HT_ rfl rfl ?_
    refine zP 9 60 1023 HT_ rfl rfl ?_
    refine zP 11 62 3071 HT_ rfl rfl ?_
    refine zP 14 65 19455 HT_ rfl rfl ?_
    refine zP 16 67 84991 HT_ rfl rfl ?_
    refine zQ 10 61 86015 HT_ HW_ hHeld rfl rfl ?_
    refine zQ 12 63 90111 HT_ HW_ hHeld rfl rfl ?_
    refine zP 13 64 98303 HT_ rfl rfl ?_
    refine zQ 15 66 131071 HT_ HW_ hHeld rfl rfl ?_
    refine zQ 17 68 262143 HT_ HW_ hHeld rfl rfl ?_
    refine zP 18 69 524287 HT_ rfl rfl ?_
    refine zP 19 70 1048575 HT_ rfl rfl ?_
    refine zP 20 71 2097151 HT_ rfl rfl ?_
    refine zP 21 72 4194303 HT_ rfl rfl ?_
    refine zP 22 73 8388607 HT_ rfl rfl ?_
    refine zP 23 74 16777215 HT_ rfl rfl ?_
    refine zO 24 75 33554431 HT_ rfl rfl ?_
    refine zO 25 76 67108863 HT_ rfl rfl ?_
    refine zO 26 77 134217727 HT_ rfl rfl ?_
    refine zO 27 78 268435455 HT_ rfl rfl ?_
    refine zO 28 79 536870911 HT_ rfl rfl ?_
    refine zP 29 80 1073741823 HT_ rfl rfl ?_
    refine zP 30 81 2147483647 HT_ rfl rfl ?_
    refine zP 31 82 4294967295 HT_ rfl rfl ?_
    refine zP 32 83 8589934591 HT_ rfl rfl ?_
    refine zP 33 84 17179869183 HT_ rfl rfl ?_
    refine zP 34 85 34359738367 HT_ rfl rfl ?_
    refine zP 36 87 103079215103 HT_ rfl rfl ?_
    refine zQ 35 86 137438953471 HT_ HW_ hHeld rfl rfl ?_
    refine zQ 37 88 274877906943 HT_ HW_ hHeld rfl rfl ?_
    refine zP 38 89 549755813887 HT_ rfl rfl ?_
    refine zP 39 90 1099511627775 HT_ rfl rfl ?_
    refine zP 40 91 2199023255551 HT_ rfl rfl ?_
    refine zP 41 92 4398046511103 HT_ rfl rfl ?_
    refine zP 42 93 8796093022207 HT_ rfl rfl ?_
    refine zP 43 94 17592186044415 HT_ rfl rfl ?_
    refine zP 44 95 35184372088831 HT_ rfl rfl ?_
    refine zP 45 96 70368744177663 HT_ rfl rfl ?_
    refine zP 46 97 140737488355327 HT_ rfl rfl ?_
    refine zP 47 98 281474976710655 HT_ rfl rfl ?_
    refine zP 48 99 562949953421311 HT_ rfl rfl ?_
    refine zP 49 100 1125899906842623 HT_ rfl rfl ?_
    refine zP 50 101 2251799813685247 HT_ rfl rfl ?_
    refine zP 51 102 4503599627370495 HT_ rfl rfl ?_
    refine zP 52 103 9007199254740991 HT_ rfl rfl ?_
    refine zQ 53 104 18014398509481983 HT_ HW_ hHeld rfl rfl ?_
    refine zQ 55 106 54043195528445951 HT_ HW_ hHeld rfl rfl ?_
    refine one_ (i := 54) (N := some 105) (HX 70 72057594037927935) rfl rfl (one_of HT_.out zk) (by decide) (fun K hK => ?_)
    refine goes_ Try.func22 zk rfl #[.agg #[.int .i64 t156, .int .i64 t157, .int .i64 t158, .int .i64 t159], .int .i64 0] (by rfl) rfl rfl zA ?_
    with_reducible refine (gain_At.calls t156 t157 t158 t159 0 t183 _ A116.out).mono ?_
    rintro e w121 ⟨rfl, hb⟩
    refine ⟨_, rfl, ?_⟩
    have n0_ := Aside0.mk (blk_below (zB BK153) hb)
    have n1_ := Aside0.mk (blk_below (zB BK161) hb)
    have n2_ := Aside0.mk (below_step (zW HB) hb)
    clear BK153
    clear BK161
    clear HB
    have BK153 := n0_
    have BK161 := n1_
    have HB := n2_
    clear n0_ n1_ n2_
    (try clear hb)
    (try clear hb2)
    (try clear hk)
    (try clear hi)
    (try clear hgw)
    refine hK.out _ _ ⟨(blk_cell BK153.out 0).trans rfl, (blk_cell BK153.out 1).trans rfl, (blk_cell BK153.out 2).trans rfl, (blk_cell BK153.out 3).trans rfl, (blk_cell BK161.out 0).trans rfl, (blk_cell BK161.out 1).trans rfl, (blk_cell BK161.out 2).trans rfl, (blk_cell BK161.out 3).trans rfl⟩ (fun hHeld => ?_)
    clear hK K
    refine norm_ (a' := ?_) ?_ ?_
    rotate_left
    ·show Act.put _ (some 105) _ = _
     simp only [Act.put, List.setIfInBounds_toArray, List.set_cons_zero, List.set_cons_succ, i64_w, i32_w]
     rfl
    refine one_ (i := 56) (N := some 107) (HX 70 144115188075855871) rfl rfl (one_of HT_.out zk) (by decide) (fun K hK => ?_)
    refine goes_ Try.func22 zk rfl #[.agg #[.int .i64 t148, .int .i64 t149, .int .i64 t150, .int .i64 t151], .int .i64 0] (by rfl) rfl rfl zA ?_
    with_reducible refine (gain_At.calls t148 t149 t150 t151 0 t184 _ A117.out).mono ?_
    rintro e w122 ⟨rfl, hb⟩
    refine ⟨_, rfl, ?_⟩
    have n0_ := Aside0.mk (blk_below (zB BK153) hb)
    have n1_ := Aside0.mk (blk_below (zB BK161) hb)
    have n2_ := Aside0.mk (below_step (zW HB) hb)
    clear BK153
    clear BK161
    clear HB
    have BK153 := n0_
    have BK161 := n1_
    have HB := n2_
    clear n0_ n1_ n2_
    (try clear hb)
    (try clear hb2)
    (try clear hk)
    (try clear hi)
    (try clear hgw)
    refine hK.out _ _ ⟨(blk_cell BK153.out 0).trans rfl, (blk_cell BK153.out 1).trans rfl, (blk_cell BK153.out 2).trans rfl, (blk_cell BK153.out 3).trans rfl, (blk_cell BK161.out 0).trans rfl, (blk_cell BK161.out 1).trans rfl, (blk_cell BK161.out 2).trans rfl, (blk_cell BK161.out 3).trans rfl⟩ (fun hHeld => ?_)
    clear hK K
    refine norm_ (a' := ?_) ?_ ?_
    rotate_left
    ·show Act.put _ (some 107) _ = _
     simp only [Act.put, List.setIfInBounds_toArray, List.set_cons_zero, List.set_cons_succ, i64_w, i32_w]
     rfl
    refine zP 57 108 288230376151711743 HT_ rfl rfl ?_
    refine zP 58 109 576460752303423487 HT_ rfl rfl ?_
    refine zP 59 110 1152921504606846975 HT_ rfl rfl ?_
    refine zP 60 111 2305843009213693951 HT_ rfl rfl ?_
    refine zP 62 113 6917529027641081855 HT_ rfl rfl ?_
    refine zP 63 114 16140901064495857663 HT_ rfl rfl ?_
    refine zP 65 116 53034389211914960895 HT_ rfl rfl ?_
    refine zP 66 117 126821365506753167359 HT_ rfl rfl ?_
    refine zQ 61 112 129127208515966861311 HT_ HW_ hHeld rfl rfl ?_
    refine one_ (i := 64) (N := some 115) (HX 70 147573952589676412927) rfl rfl (one_of HT_.out zk) (by decide) (fun K hK => ?_)
    refine goes_ Try.func22 zk rfl #[.agg #[.int .i64 t156, .int .i64 t157, .int .i64 t158, .int .i64 t159], .int .i64 (wrap64 (a3))] (by rfl) rfl rfl zA ?_
    with_reducible refine (gain_At.calls t156 t157 t158 t159 (wrap64 (a3)) t185 _ A119.out).mono ?_
    rintro e w123 ⟨rfl, hb⟩
    refine ⟨_, rfl, ?_⟩
    have n0_ := Aside0.mk (blk_below (zB BK153) hb)
    have n1_ := Aside0.mk (blk_below (zB BK161) hb)
    have n2_ := Aside0.mk (below_step (zW HB) hb)
    clear BK153
    clear BK161
    clear HB
    have BK153 := n0_
    have BK161 := n1_
    have HB := n2_
    clear n0_ n1_ n2_
    (try clear hb)
    (try clear hb2)
    (try clear hk)
    (try clear hi)
    (try clear hgw)
    refine hK.out _ _ ⟨(blk_cell BK153.out 0).trans rfl, (blk_cell BK153.out 1).trans rfl, (blk_cell BK153.out 2).trans rfl, (blk_cell BK153.out 3).trans rfl, (blk_cell BK161.out 0).trans rfl, (blk_cell BK161.out 1).trans rfl, (blk_cell BK161.out 2).trans rfl, (blk_cell BK161.out 3).trans rfl⟩ (fun hHeld => ?_)
    clear hK K
    refine norm_ (a' := ?_) ?_ ?_
    rotate_left
    ·show Act.put _ (some 115) _ = _
     simp only [Act.put, List.setIfInBounds_toArray, List.set_cons_zero, List.set_cons_succ, i64_w, i32_w]
     rfl
    refine zP 67 118 295147905179352825855 HT_ rfl rfl ?_
    refine zP 68 119 590295810358705651711 HT_ rfl rfl ?_
    refine zP 69 8 1180591620717411303423 HT_ rfl rfl ?_
    refine done_ (done_of HT_.out zk) ?_
    try go_wp2
    go_ret
    exact ⟨zX, zW HB⟩
   rw [if_pos c65] at H
   have c65b0 : decide (t154 ≤ t155) = true := decide_eq_true c65
   clear c65
   by_cases c66 : ((decide (t149 ≥ t148)) == (decide (t149 > t148))) = true
   rotate_left
   ·rw [if_neg c66] at H
    have c66b0 : ((decide (t149 ≥ t148)) == (decide (t149 > t148))) = false := by simpa using c66
    (try (have c66b1 : decide ((decide (t149 ≥ t148)) = (decide (t149 > t148))) = false := by simpa using c66))
    (try (have c66b2 : ((decide (t149 ≥ t148)) == (decide (t149 > t148))) = false := by simpa using c66))
    (try (have c66b3 : ¬ ((decide (t149 ≥ t148)) = (decide (t149 > t148))) := by simpa using c66))
    clear c66
    exact absurd (H.trans (congrArg some HR_.out)) (by simp)
   rw [if_pos c66] at H
   have c66b0 : ((decide (t149 ≥ t148)) == (decide (t149 > t148))) = true := c66
   (try (have c66b1 : decide ((decide (t149 ≥ t148)) = (decide (t149 > t148))) = true := by simpa using c66))
   (try (have c66b2 : ((decide (t149 ≥ t148)) == (decide (t149 > t148))) = true := by simpa using c66))
   clear c66
   by_cases c67 : t149 > t148
   ·rw [if_pos c67] at H
    have c67b0 : decide (t148 < t149) = true := decide_eq_true c67
    have c67z : decide (t148 ≤ t149) = true := decide_eq_true (by omega)
    clear c67
    by_cases c68 : t160 = 0
    rotate_left
    ·rw [if_neg c68] at H
     have c68b0 : (t160 == 0) = false := beq_eq_false_iff_ne.mpr c68
     have c68b1 : (t160 != 0) = true := bne_iff_ne.mpr c68
     exact absurd (H.trans (congrArg some HR_.out)) (by simp)
    rw [if_pos c68] at H
    have c68b0 : (t160 == 0) = true := beq_iff_eq.mpr c68
    have c68b1 : (t160 != 0) = false := bne_eq_false_iff_eq.mpr c68
    clear c68
    by_cases c69 : a3 = 0
    ·rw [if_pos c69] at H
     have c69b0 : (a3 == 0) = true := beq_iff_eq.mpr c69
     have c69b1 : (a3 != 0) = false := bne_eq_false_iff_eq.mpr c69
     clear c69
     replace H := Option.bind_eq_some_iff.mp H
     obtain ⟨t170, A700, H⟩ := H
     replace H : (some (t170 == (wrap64 (a2)))) = some r := H
     have A70 := Aside0.mk A700
     clear A700
     obtain rfl := Option.some.inj H
     try go_wp2
     have n0_ := Aside0.mk (blk_drew BK153.out)
     have n1_ := Aside0.mk (blk_drew BK161.out)
     have n2_ := Aside0.mk (below_drew1 HB.out)
     clear BK153
     clear BK161
     clear HB
     have BK153 := n0_
     have BK161 := n1_
     have HB := n2_
     clear n0_ n1_ n2_
     refine start_ (n := 70) (S := fun w' => w'.cell? ⟨gb153, 0, none⟩ = some (.int .i64 t148) ∧ w'.cell? ⟨gb153, 1, none⟩ = some (.int .i64 t149) ∧ w'.cell? ⟨gb153, 2, none⟩ = some (.int .i64 t150) ∧ w'.cell? ⟨gb153, 3, none⟩ = some (.int .i64 t151) ∧ w'.cell? ⟨gb161, 0, none⟩ = some (.int .i64 t156) ∧ w'.cell? ⟨gb161, 1, none⟩ = some (.int .i64 t157) ∧ w'.cell? ⟨gb161, 2, none⟩ = some (.int .i64 t158) ∧ w'.cell? ⟨gb161, 3, none⟩ = some (.int .i64 t159)) (ds := []) (HX 70 0) zk rfl rfl ⟨(blk_cell BK153.out 0).trans rfl, (blk_cell BK153.out 1).trans rfl, (blk_cell BK153.out 2).trans rfl, (blk_cell BK153.out 3).trans rfl, (blk_cell BK161.out 0).trans rfl, (blk_cell BK161.out 1).trans rfl, (blk_cell BK161.out 2).trans rfl, (blk_cell BK161.out 3).trans rfl⟩ (fun hHeld => ?_); refine with_tabW soundservicelaw05_GainMoves.tab8 soundservicelaw05_GainMoves.bits8 (fun HT_ HW_ => ?_)
     generalize wc.drew = w71 at BK153 BK161 HB hHeld ⊢
     refine zP 0 51 1 HT_ rfl rfl ?_
     refine zP 1 52 3 HT_ rfl rfl ?_
     refine zP 2 53 7 HT_ rfl rfl ?_
     refine zP 3 54 15 HT_ rfl rfl ?_
     refine zP 4 55 31 HT_ rfl rfl ?_
     refine zP 5 56 63 HT_ rfl rfl ?_
     refine zP 6 57 127 HT_ rfl rfl ?_
     refine zP 7 58 255 HT_ rfl rfl ?_
     refine zP 8 59 511 HT_ rfl rfl ?_
     refine zP 9 60 1023 HT_ rfl rfl ?_
     refine zP 11 62 3071 HT_ rfl rfl ?_
     refine zP 14 65 19455 HT_ rfl rfl ?_
     refine zP 16 67 84991 HT_ rfl rfl ?_
     refine zQ 10 61 86015 HT_ HW_ hHeld rfl rfl ?_
     refine zQ 12 63 90111 HT_ HW_ hHeld rfl rfl ?_
     refine zP 13 64 98303 HT_ rfl rfl ?_
     refine zQ 15 66 131071 HT_ HW_ hHeld rfl rfl ?_
     refine zQ 17 68 262143 HT_ HW_ hHeld rfl rfl ?_
     refine zP 18 69 524287 HT_ rfl rfl ?_
     refine zP 19 70 1048575 HT_ rfl rfl ?_
     refine zP 20 71 2097151 HT_ rfl rfl ?_
     refine zP 21 72 4194303 HT_ rfl rfl ?_
     refine zP 22 73 8388607 HT_ rfl rfl ?_
     refine zP 23 74 16777215 HT_ rfl rfl ?_
     refine zP 24 75 33554431 HT_ rfl rfl ?_
     refine zP 26 77 100663295 HT_ rfl rfl ?_
     refine zQ 25 76 134217727 HT_ HW_ hHeld rfl rfl ?_
     refine zQ 27 78 268435455 HT_ HW_ hHeld rfl rfl ?_
     refine zP 28 79 536870911 HT_ rfl rfl ?_
     refine zP 29 80 1073741823 HT_ rfl rfl ?_
     refine zP 30 81 2147483647 HT_ rfl rfl ?_
     refine zP 31 82 4294967295 HT_ rfl rfl ?_
     refine zP 32 83 8589934591 HT_ rfl rfl ?_
     refine zP 33 84 17179869183 HT_ rfl rfl ?_
     refine zP 34 85 34359738367 HT_ rfl rfl ?_
     refine zP 36 87 103079215103 HT_ rfl rfl ?_
     refine zQ 35 86 137438953471 HT_ HW_ hHeld rfl rfl ?_
     refine zQ 37 88 274877906943 HT_ HW_ hHeld rfl rfl ?_
     refine zP 38 89 549755813887 HT_ rfl rfl ?_
     refine zP 39 90 1099511627775 HT_ rfl rfl ?_
     refine zO 40 91 2199023255551 HT_ rfl rfl ?_
     refine zO 41 92 4398046511103 HT_ rfl rfl ?_
     refine zO 42 93 8796093022207 HT_ rfl rfl ?_
     refine zP 43 94 17592186044415 HT_ rfl rfl ?_
     refine zP 44 95 35184372088831 HT_ rfl rfl ?_
     refine zP 45 96 70368744177663 HT_ rfl rfl ?_
     refine zP 46 97 140737488355327 HT_ rfl rfl ?_
     refine zP 47 98 281474976710655 HT_ rfl rfl ?_
     refine zP 48 99 562949953421311 HT_ rfl rfl ?_
     refine zP 49 100 1125899906842623 HT_ rfl rfl ?_
     refine zP 50 101 2251799813685247 HT_ rfl rfl ?_
     refine zP 51 102 4503599627370495 HT_ rfl rfl ?_
     refine zP 52 103 9007199254740991 HT_ rfl rfl ?_
     refine zO 53 104 18014398509481983 HT_ rfl rfl ?_
     refine zO 54 105 36028797018963967 HT_ rfl rfl ?_
     refine zO 55 106 72057594037927935 HT_ rfl rfl ?_
     refine zO 56 107 144115188075855871 HT_ rfl rfl ?_
     refine zO 57 108 288230376151711743 HT_ rfl rfl ?_
     refine zP 58 109 576460752303423487 HT_ rfl rfl ?_
     refine zP 59 110 1152921504606846975 HT_ rfl rfl ?_
     refine zP 60 111 2305843009213693951 HT_ rfl rfl ?_
     refine zP 62 113 6917529027641081855 HT_ rfl rfl ?_
     refine zP 63 114 16140901064495857663 HT_ rfl rfl ?_
     refine zP 65 116 53034389211914960895 HT_ rfl rfl ?_
     refine zP 66 117 126821365506753167359 HT_ rfl rfl ?_
     refine zQ 61 112 129127208515966861311 HT_ HW_ hHeld rfl rfl ?_
     refine one_ (i := 64) (N := some 115) (HX 70 147573952589676412927) rfl rfl (one_of HT_.out zk) (by decide) (fun K hK => ?_)
     refine goes_ Try.func22 zk rfl #[.agg #[.int .i64 t156, .int .i64 t157, .int .i64 t158, .int .i64 t159], .int .i64 (wrap64 (a3))] (by rfl) rfl rfl zA ?_
     with_reducible refine (gain_At.calls t156 t157 t158 t159 (wrap64 (a3)) t170 _ A70.out).mono ?_
     rintro e w72 ⟨rfl, hb⟩
     refine ⟨_, rfl, ?_⟩
     have n0_ := Aside0.mk (blk_below (zB BK153) hb)
     have n1_ := Aside0.mk (blk_below (zB BK161) hb)
     have n2_ := Aside0.mk (below_step (zW HB) hb)
     clear BK153
     clear BK161
     clear HB
     have BK153 := n0_
     have BK161 := n1_
     have HB := n2_
     clear n0_ n1_ n2_
     (try clear hb)
     (try clear hb2)
     (try clear hk)
     (try clear hi)
     (try clear hgw)
     refine hK.out _ _ ⟨(blk_cell BK153.out 0).trans rfl, (blk_cell BK153.out 1).trans rfl, (blk_cell BK153.out 2).trans rfl, (blk_cell BK153.out 3).trans rfl, (blk_cell BK161.out 0).trans rfl, (blk_cell BK161.out 1).trans rfl, (blk_cell BK161.out 2).trans rfl, (blk_cell BK161.out 3).trans rfl⟩ (fun hHeld => ?_)
     clear hK K
     refine norm_ (a' := ?_) ?_ ?_
     rotate_left
     ·show Act.put _ (some 115) _ = _
      simp only [Act.put, List.setIfInBounds_toArray, List.set_cons_zero, List.set_cons_succ, i64_w, i32_w]
      rfl
     refine zP 67 118 295147905179352825855 HT_ rfl rfl ?_
     refine zP 68 119 590295810358705651711 HT_ rfl rfl ?_
     refine zP 69 8 1180591620717411303423 HT_ rfl rfl ?_
     refine done_ (done_of HT_.out zk) ?_
     try go_wp2
     go_ret
     exact ⟨zX, zW HB⟩
    rw [if_neg c69] at H
    have c69b0 : (a3 == 0) = false := beq_eq_false_iff_ne.mpr c69
    have c69b1 : (a3 != 0) = true := bne_iff_ne.mpr c69
    replace H := Option.bind_eq_some_iff.mp H
    obtain ⟨t171, A730, H⟩ := H
    replace H : ((gain_At.f t148 t149 t150 t151 0).bind fun t172 => (if t171 = t172 then ((gain_At.f t156 t157 t158 t159 (wrap64 (a3))).bind fun t173 => (some (t173 == (wrap64 (a2))))) else (some false))) = some r := H
    have A73 := Aside0.mk A730
    clear A730
    replace H := Option.bind_eq_some_iff.mp H
    obtain ⟨t172, A740, H⟩ := H
    replace H : (if t171 = t172 then ((gain_At.f t156 t157 t158 t159 (wrap64 (a3))).bind fun t173 => (some (t173 == (wrap64 (a2))))) else (some false)) = some r := H
    have A74 := Aside0.mk A740
    clear A740
    by_cases c75 : t171 = t172
    rotate_left
    ·rw [if_neg c75] at H
     have c75b0 : (t171 == t172) = false := beq_eq_false_iff_ne.mpr c75
     have c75b1 : (t171 != t172) = true := bne_iff_ne.mpr c75
     exact absurd (H.trans (congrArg some HR_.out)) (by simp)
    rw [if_pos c75] at H
    have c75b0 : (t171 == t172) = true := beq_iff_eq.mpr c75
    have c75b1 : (t171 != t172) = false := bne_eq_false_iff_eq.mpr c75
    clear c75
    replace H := Option.bind_eq_some_iff.mp H
    obtain ⟨t173, A760, H⟩ := H
    replace H : (some (t173 == (wrap64 (a2)))) = some r := H
    have A76 := Aside0.mk A760
    clear A760
    obtain rfl := Option.some.inj H
    try go_wp2
    have n0_ := Aside0.mk (blk_drew BK153.out)
    have n1_ := Aside0.mk (blk_drew BK161.out)
    have n2_ := Aside0.mk (below_drew1 HB.out)
    clear BK153
    clear BK161
    clear HB
    have BK153 := n0_
    have BK161 := n1_
    have HB := n2_
    clear n0_ n1_ n2_
    refine start_ (n := 70) (S := fun w' => w'.cell? ⟨gb153, 0, none⟩ = some (.int .i64 t148) ∧ w'.cell? ⟨gb153, 1, none⟩ = some (.int .i64 t149) ∧ w'.cell? ⟨gb153, 2, none⟩ = some (.int .i64 t150) ∧ w'.cell? ⟨gb153, 3, none⟩ = some (.int .i64 t151) ∧ w'.cell? ⟨gb161, 0, none⟩ = some (.int .i64 t156) ∧ w'.cell? ⟨gb161, 1, none⟩ = some (.int .i64 t157) ∧ w'.cell? ⟨gb161, 2, none⟩ = some (.int .i64 t158) ∧ w'.cell? ⟨gb161, 3, none⟩ = some (.int .i64 t159)) (ds := []) (HX 70 0) zk rfl rfl ⟨(blk_cell BK153.out 0).trans rfl, (blk_cell BK153.out 1).trans rfl, (blk_cell BK153.out 2).trans rfl, (blk_cell BK153.out 3).trans rfl, (blk_cell BK161.out 0).trans rfl, (blk_cell BK161.out 1).trans rfl, (blk_cell BK161.out 2).trans rfl, (blk_cell BK161.out 3).trans rfl⟩ (fun hHeld => ?_); refine with_tabW soundservicelaw05_GainMoves.tab8 soundservicelaw05_GainMoves.bits8 (fun HT_ HW_ => ?_)
    generalize wc.drew = w77 at BK153 BK161 HB hHeld ⊢
    refine zP 0 51 1 HT_ rfl rfl ?_
    refine zP 1 52 3 HT_ rfl rfl ?_
    refine zP 2 53 7 HT_ rfl rfl ?_
    refine zP 3 54 15 HT_ rfl rfl ?_
    refine zP 4 55 31 HT_ rfl rfl ?_
    refine zP 5 56 63 HT_ rfl rfl ?_
    refine zP 6 57 127 HT_ rfl rfl ?_
    refine zP 7 58 255 HT_ rfl rfl ?_
    refine zP 8 59 511 HT_ rfl rfl ?_
    refine zP 9 60 1023 HT_ rfl rfl ?_
    refine zP 11 62 3071 HT_ rfl rfl ?_
    refine zP 14 65 19455 HT_ rfl rfl ?_
    refine zP 16 67 84991 HT_ rfl rfl ?_
    refine zQ 10 61 86015 HT_ HW_ hHeld rfl rfl ?_
    refine zQ 12 63 90111 HT_ HW_ hHeld rfl rfl ?_
    refine zP 13 64 98303 HT_ rfl rfl ?_
    refine zQ 15 66 131071 HT_ HW_ hHeld rfl rfl ?_
    refine zQ 17 68 262143 HT_ HW_ hHeld rfl rfl ?_
    refine zP 18 69 524287 HT_ rfl rfl ?_
    refine zP 19 70 1048575 HT_ rfl rfl ?_
    refine zP 20 71 2097151 HT_ rfl rfl ?_
    refine zP 21 72 4194303 HT_ rfl rfl ?_
    refine zP 22 73 8388607 HT_ rfl rfl ?_
    refine zP 23 74 16777215 HT_ rfl rfl ?_
    refine zP 24 75 33554431 HT_ rfl rfl ?_
    refine zP 26 77 100663295 HT_ rfl rfl ?_
    refine zQ 25 76 134217727 HT_ HW_ hHeld rfl rfl ?_
    refine zQ 27 78 268435455 HT_ HW_ hHeld rfl rfl ?_
    refine zP 28 79 536870911 HT_ rfl rfl ?_
    refine zP 29 80 1073741823 HT_ rfl rfl ?_
    refine zP 30 81 2147483647 HT_ rfl rfl ?_
    refine zP 31 82 4294967295 HT_ rfl rfl ?_
    refine zP 32 83 8589934591 HT_ rfl rfl ?_
    refine zP 33 84 17179869183 HT_ rfl rfl ?_
    refine zP 34 85 34359738367 HT_ rfl rfl ?_
    refine zP 36 87 103079215103 HT_ rfl rfl ?_
    refine zQ 35 86 137438953471 HT_ HW_ hHeld rfl rfl ?_
    refine zQ 37 88 274877906943 HT_ HW_ hHeld rfl rfl ?_
    refine zP 38 89 549755813887 HT_ rfl rfl ?_
    refine zP 39 90 1099511627775 HT_ rfl rfl ?_
    refine zO 40 91 2199023255551 HT_ rfl rfl ?_
    refine zO 41 92 4398046511103 HT_ rfl rfl ?_
    refine zO 42 93 8796093022207 HT_ rfl rfl ?_
    refine zP 43 94 17592186044415 HT_ rfl rfl ?_
    refine zP 44 95 35184372088831 HT_ rfl rfl ?_
    refine zP 45 96 70368744177663 HT_ rfl rfl ?_
    refine zP 46 97 140737488355327 HT_ rfl rfl ?_
    refine zP 47 98 281474976710655 HT_ rfl rfl ?_
    refine zP 48 99 562949953421311 HT_ rfl rfl ?_
    refine zP 49 100 1125899906842623 HT_ rfl rfl ?_
    refine zP 50 101 2251799813685247 HT_ rfl rfl ?_
    refine zP 51 102 4503599627370495 HT_ rfl rfl ?_
    refine zP 52 103 9007199254740991 HT_ rfl rfl ?_
    refine zQ 53 104 18014398509481983 HT_ HW_ hHeld rfl rfl ?_
    refine zQ 55 106 54043195528445951 HT_ HW_ hHeld rfl rfl ?_
    refine one_ (i := 54) (N := some 105) (HX 70 72057594037927935) rfl rfl (one_of HT_.out zk) (by decide) (fun K hK => ?_)
    refine goes_ Try.func22 zk rfl #[.agg #[.int .i64 t156, .int .i64 t157, .int .i64 t158, .int .i64 t159], .int .i64 0] (by rfl) rfl rfl zA ?_
    with_reducible refine (gain_At.calls t156 t157 t158 t159 0 t171 _ A73.out).mono ?_
    rintro e w78 ⟨rfl, hb⟩
    refine ⟨_, rfl, ?_⟩
    have n0_ := Aside0.mk (blk_below (zB BK153) hb)
    have n1_ := Aside0.mk (blk_below (zB BK161) hb)
    have n2_ := Aside0.mk (below_step (zW HB) hb)
    clear BK153
    clear BK161
    clear HB
    have BK153 := n0_
    have BK161 := n1_
    have HB := n2_
    clear n0_ n1_ n2_
    (try clear hb)
    (try clear hb2)
    (try clear hk)
    (try clear hi)
    (try clear hgw)
    refine hK.out _ _ ⟨(blk_cell BK153.out 0).trans rfl, (blk_cell BK153.out 1).trans rfl, (blk_cell BK153.out 2).trans rfl, (blk_cell BK153.out 3).trans rfl, (blk_cell BK161.out 0).trans rfl, (blk_cell BK161.out 1).trans rfl, (blk_cell BK161.out 2).trans rfl, (blk_cell BK161.out 3).trans rfl⟩ (fun hHeld => ?_)
    clear hK K
    refine norm_ (a' := ?_) ?_ ?_
    rotate_left
    ·show Act.put _ (some 105) _ = _
     simp only [Act.put, List.setIfInBounds_toArray, List.set_cons_zero, List.set_cons_succ, i64_w, i32_w]
     rfl
    refine one_ (i := 56) (N := some 107) (HX 70 144115188075855871) rfl rfl (one_of HT_.out zk) (by decide) (fun K hK => ?_)
    refine goes_ Try.func22 zk rfl #[.agg #[.int .i64 t148, .int .i64 t149, .int .i64 t150, .int .i64 t151], .int .i64 0] (by rfl) rfl rfl zA ?_
    with_reducible refine (gain_At.calls t148 t149 t150 t151 0 t172 _ A74.out).mono ?_
    rintro e w79 ⟨rfl, hb⟩
    refine ⟨_, rfl, ?_⟩
    have n0_ := Aside0.mk (blk_below (zB BK153) hb)
    have n1_ := Aside0.mk (blk_below (zB BK161) hb)
    have n2_ := Aside0.mk (below_step (zW HB) hb)
    clear BK153
    clear BK161
    clear HB
    have BK153 := n0_
    have BK161 := n1_
    have HB := n2_
    clear n0_ n1_ n2_
    (try clear hb)
    (try clear hb2)
    (try clear hk)
    (try clear hi)
    (try clear hgw)
    refine hK.out _ _ ⟨(blk_cell BK153.out 0).trans rfl, (blk_cell BK153.out 1).trans rfl, (blk_cell BK153.out 2).trans rfl, (blk_cell BK153.out 3).trans rfl, (blk_cell BK161.out 0).trans rfl, (blk_cell BK161.out 1).trans rfl, (blk_cell BK161.out 2).trans rfl, (blk_cell BK161.out 3).trans rfl⟩ (fun hHeld => ?_)
    clear hK K
    refine norm_ (a' := ?_) ?_ ?_
    rotate_left
    ·show Act.put _ (some 107) _ = _
     simp only [Act.put, List.setIfInBounds_toArray, List.set_cons_zero, List.set_cons_succ, i64_w, i32_w]
     rfl
    refine zP 57 108 288230376151711743 HT_ rfl rfl ?_
    refine zP 58 109 576460752303423487 HT_ rfl rfl ?_
    refine zP 59 110 1152921504606846975 HT_ rfl rfl ?_
    refine zP 60 111 2305843009213693951 HT_ rfl rfl ?_
    refine zP 62 113 6917529027641081855 HT_ rfl rfl ?_
    refine zP 63 114 16140901064495857663 HT_ rfl rfl ?_
    refine zP 65 116 53034389211914960895 HT_ rfl rfl ?_
    refine zP 66 117 126821365506753167359 HT_ rfl rfl ?_
    refine zQ 61 112 129127208515966861311 HT_ HW_ hHeld rfl rfl ?_
    refine one_ (i := 64) (N := some 115) (HX 70 147573952589676412927) rfl rfl (one_of HT_.out zk) (by decide) (fun K hK => ?_)
    refine goes_ Try.func22 zk rfl #[.agg #[.int .i64 t156, .int .i64 t157, .int .i64 t158, .int .i64 t159], .int .i64 (wrap64 (a3))] (by rfl) rfl rfl zA ?_
    with_reducible refine (gain_At.calls t156 t157 t158 t159 (wrap64 (a3)) t173 _ A76.out).mono ?_
    rintro e w80 ⟨rfl, hb⟩
    refine ⟨_, rfl, ?_⟩
    have n0_ := Aside0.mk (blk_below (zB BK153) hb)
    have n1_ := Aside0.mk (blk_below (zB BK161) hb)
    have n2_ := Aside0.mk (below_step (zW HB) hb)
    clear BK153
    clear BK161
    clear HB
    have BK153 := n0_
    have BK161 := n1_
    have HB := n2_
    clear n0_ n1_ n2_
    (try clear hb)
    (try clear hb2)
    (try clear hk)
    (try clear hi)
    (try clear hgw)
    refine hK.out _ _ ⟨(blk_cell BK153.out 0).trans rfl, (blk_cell BK153.out 1).trans rfl, (blk_cell BK153.out 2).trans rfl, (blk_cell BK153.out 3).trans rfl, (blk_cell BK161.out 0).trans rfl, (blk_cell BK161.out 1).trans rfl, (blk_cell BK161.out 2).trans rfl, (blk_cell BK161.out 3).trans rfl⟩ (fun hHeld => ?_)
    clear hK K
    refine norm_ (a' := ?_) ?_ ?_
    rotate_left
    ·show Act.put _ (some 115) _ = _
     simp only [Act.put, List.setIfInBounds_toArray, List.set_cons_zero, List.set_cons_succ, i64_w, i32_w]
     rfl
    refine zP 67 118 295147905179352825855 HT_ rfl rfl ?_
    refine zP 68 119 590295810358705651711 HT_ rfl rfl ?_
    refine zP 69 8 1180591620717411303423 HT_ rfl rfl ?_
    refine done_ (done_of HT_.out zk) ?_
    try go_wp2
    go_ret
    exact ⟨zX, zW HB⟩
   rw [if_neg c67] at H
   have c67b0 : decide (t148 < t149) = false := decide_eq_false c67
   have c67z : decide (t148 ≤ t149) = false := decide_eq_false (by omega)
   clear c67
   by_cases c81 : t155 ≤ t154
   rotate_left
   ·rw [if_neg c81] at H
    have c81b0 : decide (t155 ≤ t154) = false := decide_eq_false c81
    clear c81
    exact absurd (H.trans (congrArg some HR_.out)) (by simp)
   rw [if_pos c81] at H
   have c81b0 : decide (t155 ≤ t154) = true := decide_eq_true c81
   clear c81
   by_cases c82 : t160 = 0
   rotate_left
   ·rw [if_neg c82] at H
    have c82b0 : (t160 == 0) = false := beq_eq_false_iff_ne.mpr c82
    have c82b1 : (t160 != 0) = true := bne_iff_ne.mpr c82
    exact absurd (H.trans (congrArg some HR_.out)) (by simp)
   rw [if_pos c82] at H
   have c82b0 : (t160 == 0) = true := beq_iff_eq.mpr c82
   have c82b1 : (t160 != 0) = false := bne_eq_false_iff_eq.mpr c82
   clear c82
   by_cases c83 : a3 = 0
   ·rw [if_pos c83] at H
    have c83b0 : (a3 == 0) = true := beq_iff_eq.mpr c83
    have c83b1 : (a3 != 0) = false := bne_eq_false_iff_eq.mpr c83
    clear c83
    replace H := Option.bind_eq_some_iff.mp H
    obtain ⟨t174, A840, H⟩ := H
    replace H : (some (t174 == (wrap64 (a2)))) = some r := H
    have A84 := Aside0.mk A840
    clear A840
    obtain rfl := Option.some.inj H
    try go_wp2
    have n0_ := Aside0.mk (blk_drew BK153.out)
    have n1_ := Aside0.mk (blk_drew BK161.out)
    have n2_ := Aside0.mk (below_drew1 HB.out)
    clear BK153
    clear BK161
    clear HB
    have BK153 := n0_
    have BK161 := n1_
    have HB := n2_
    clear n0_ n1_ n2_
    refine start_ (n := 70) (S := fun w' => w'.cell? ⟨gb153, 0, none⟩ = some (.int .i64 t148) ∧ w'.cell? ⟨gb153, 1, none⟩ = some (.int .i64 t149) ∧ w'.cell? ⟨gb153, 2, none⟩ = some (.int .i64 t150) ∧ w'.cell? ⟨gb153, 3, none⟩ = some (.int .i64 t151) ∧ w'.cell? ⟨gb161, 0, none⟩ = some (.int .i64 t156) ∧ w'.cell? ⟨gb161, 1, none⟩ = some (.int .i64 t157) ∧ w'.cell? ⟨gb161, 2, none⟩ = some (.int .i64 t158) ∧ w'.cell? ⟨gb161, 3, none⟩ = some (.int .i64 t159)) (ds := []) (HX 70 0) zk rfl rfl ⟨(blk_cell BK153.out 0).trans rfl, (blk_cell BK153.out 1).trans rfl, (blk_cell BK153.out 2).trans rfl, (blk_cell BK153.out 3).trans rfl, (blk_cell BK161.out 0).trans rfl, (blk_cell BK161.out 1).trans rfl, (blk_cell BK161.out 2).trans rfl, (blk_cell BK161.out 3).trans rfl⟩ (fun hHeld => ?_); refine with_tabW soundservicelaw05_GainMoves.tab8 soundservicelaw05_GainMoves.bits8 (fun HT_ HW_ => ?_)
    generalize wc.drew = w85 at BK153 BK161 HB hHeld ⊢
    refine zP 0 51 1 HT_ rfl rfl ?_
    refine zP 1 52 3 HT_ rfl rfl ?_
    refine zP 2 53 7 HT_ rfl rfl ?_
    refine zP 3 54 15 HT_ rfl rfl ?_
    refine zP 4 55 31 HT_ rfl rfl ?_
    refine zP 5 56 63 HT_ rfl rfl ?_
    refine zP 6 57 127 HT_ rfl rfl ?_
    refine zP 7 58 255 HT_ rfl rfl ?_
    refine zP 8 59 511 HT_ rfl rfl ?_
    refine zP 9 60 1023 HT_ rfl rfl ?_
    refine zP 11 62 3071 HT_ rfl rfl ?_
    refine zP 14 65 19455 HT_ rfl rfl ?_
    refine zP 16 67 84991 HT_ rfl rfl ?_
    refine zQ 10 61 86015 HT_ HW_ hHeld rfl rfl ?_
    refine zQ 12 63 90111 HT_ HW_ hHeld rfl rfl ?_
    refine zP 13 64 98303 HT_ rfl rfl ?_
    refine zQ 15 66 131071 HT_ HW_ hHeld rfl rfl ?_
    refine zQ 17 68 262143 HT_ HW_ hHeld rfl rfl ?_
    refine zP 18 69 524287 HT_ rfl rfl ?_
    refine zP 19 70 1048575 HT_ rfl rfl ?_
    refine zP 20 71 2097151 HT_ rfl rfl ?_
    refine zP 21 72 4194303 HT_ rfl rfl ?_
    refine zP 22 73 8388607 HT_ rfl rfl ?_
    refine zP 23 74 16777215 HT_ rfl rfl ?_
    refine zP 24 75 33554431 HT_ rfl rfl ?_
    refine zP 26 77 100663295 HT_ rfl rfl ?_
    refine zQ 25 76 134217727 HT_ HW_ hHeld rfl rfl ?_
    refine zQ 27 78 268435455 HT_ HW_ hHeld rfl rfl ?_
    refine zP 28 79 536870911 HT_ rfl rfl ?_
    refine zP 29 80 1073741823 HT_ rfl rfl ?_
    refine zP 30 81 2147483647 HT_ rfl rfl ?_
    refine zP 31 82 4294967295 HT_ rfl rfl ?_
    refine zP 32 83 8589934591 HT_ rfl rfl ?_
    refine zP 33 84 17179869183 HT_ rfl rfl ?_
    refine zP 34 85 34359738367 HT_ rfl rfl ?_
    refine zP 36 87 103079215103 HT_ rfl rfl ?_
    refine zQ 35 86 137438953471 HT_ HW_ hHeld rfl rfl ?_
    refine zQ 37 88 274877906943 HT_ HW_ hHeld rfl rfl ?_
    refine zP 38 89 549755813887 HT_ rfl rfl ?_
    refine zP 39 90 1099511627775 HT_ rfl rfl ?_
    refine zP 40 91 2199023255551 HT_ rfl rfl ?_
    refine zP 41 92 4398046511103 HT_ rfl rfl ?_
    refine zP 42 93 8796093022207 HT_ rfl rfl ?_
    refine zP 43 94 17592186044415 HT_ rfl rfl ?_
    refine zP 44 95 35184372088831 HT_ rfl rfl ?_
    refine zP 45 96 70368744177663 HT_ rfl rfl ?_
    refine zP 46 97 140737488355327 HT_ rfl rfl ?_
    refine zP 47 98 281474976710655 HT_ rfl rfl ?_
    refine zP 48 99 562949953421311 HT_ rfl rfl ?_
    refine zP 49 100 1125899906842623 HT_ rfl rfl ?_
    refine zP 50 101 2251799813685247 HT_ rfl rfl ?_
    refine zP 51 102 4503599627370495 HT_ rfl rfl ?_
    refine zP 52 103 9007199254740991 HT_ rfl rfl ?_
    refine zO 53 104 18014398509481983 HT_ rfl rfl ?_
    refine zO 54 105 36028797018963967 HT_ rfl rfl ?_
    refine zO 55 106 72057594037927935 HT_ rfl rfl ?_
    refine zO 56 107 144115188075855871 HT_ rfl rfl ?_
    refine zO 57 108 288230376151711743 HT_ rfl rfl ?_
    refine zP 58 109 576460752303423487 HT_ rfl rfl ?_
    refine zP 59 110 1152921504606846975 HT_ rfl rfl ?_
    refine zP 60 111 2305843009213693951 HT_ rfl rfl ?_
    refine zP 62 113 6917529027641081855 HT_ rfl rfl ?_
    refine zP 63 114 16140901064495857663 HT_ rfl rfl ?_
    refine zP 65 116 53034389211914960895 HT_ rfl rfl ?_
    refine zP 66 117 126821365506753167359 HT_ rfl rfl ?_
    refine zQ 61 112 129127208515966861311 HT_ HW_ hHeld rfl rfl ?_
    refine one_ (i := 64) (N := some 115) (HX 70 147573952589676412927) rfl rfl (one_of HT_.out zk) (by decide) (fun K hK => ?_)
    refine goes_ Try.func22 zk rfl #[.agg #[.int .i64 t156, .int .i64 t157, .int .i64 t158, .int .i64 t159], .int .i64 (wrap64 (a3))] (by rfl) rfl rfl zA ?_
    with_reducible refine (gain_At.calls t156 t157 t158 t159 (wrap64 (a3)) t174 _ A84.out).mono ?_
    rintro e w86 ⟨rfl, hb⟩
    refine ⟨_, rfl, ?_⟩
    have n0_ := Aside0.mk (blk_below (zB BK153) hb)
    have n1_ := Aside0.mk (blk_below (zB BK161) hb)
    have n2_ := Aside0.mk (below_step (zW HB) hb)
    clear BK153
    clear BK161
    clear HB
    have BK153 := n0_
    have BK161 := n1_
    have HB := n2_
    clear n0_ n1_ n2_
    (try clear hb)
    (try clear hb2)
    (try clear hk)
    (try clear hi)
    (try clear hgw)
    refine hK.out _ _ ⟨(blk_cell BK153.out 0).trans rfl, (blk_cell BK153.out 1).trans rfl, (blk_cell BK153.out 2).trans rfl, (blk_cell BK153.out 3).trans rfl, (blk_cell BK161.out 0).trans rfl, (blk_cell BK161.out 1).trans rfl, (blk_cell BK161.out 2).trans rfl, (blk_cell BK161.out 3).trans rfl⟩ (fun hHeld => ?_)
    clear hK K
    refine norm_ (a' := ?_) ?_ ?_
    rotate_left
    ·show Act.put _ (some 115) _ = _
     simp only [Act.put, List.setIfInBounds_toArray, List.set_cons_zero, List.set_cons_succ, i64_w, i32_w]
     rfl
    refine zP 67 118 295147905179352825855 HT_ rfl rfl ?_
    refine zP 68 119 590295810358705651711 HT_ rfl rfl ?_
    refine zP 69 8 1180591620717411303423 HT_ rfl rfl ?_
    refine done_ (done_of HT_.out zk) ?_
    try go_wp2
    go_ret
    exact ⟨zX, zW HB⟩
   rw [if_neg c83] at H
   have c83b0 : (a3 == 0) = false := beq_eq_false_iff_ne.mpr c83
   have c83b1 : (a3 != 0) = true := bne_iff_ne.mpr c83
   replace H := Option.bind_eq_some_iff.mp H
   obtain ⟨t175, A870, H⟩ := H
   replace H : ((gain_At.f t148 t149 t150 t151 0).bind fun t176 => (if t175 = t176 then ((gain_At.f t156 t157 t158 t159 (wrap64 (a3))).bind fun t177 => (some (t177 == (wrap64 (a2))))) else (some false))) = some r := H
   have A87 := Aside0.mk A870
   clear A870
   replace H := Option.bind_eq_some_iff.mp H
   obtain ⟨t176, A880, H⟩ := H
   replace H : (if t175 = t176 then ((gain_At.f t156 t157 t158 t159 (wrap64 (a3))).bind fun t177 => (some (t177 == (wrap64 (a2))))) else (some false)) = some r := H
   have A88 := Aside0.mk A880
   clear A880
   by_cases c89 : t175 = t176
   rotate_left
   ·rw [if_neg c89] at H
    have c89b0 : (t175 == t176) = false := beq_eq_false_iff_ne.mpr c89
    have c89b1 : (t175 != t176) = true := bne_iff_ne.mpr c89
    exact absurd (H.trans (congrArg some HR_.out)) (by simp)
   rw [if_pos c89] at H
   have c89b0 : (t175 == t176) = true := beq_iff_eq.mpr c89
   have c89b1 : (t175 != t176) = false := bne_eq_false_iff_eq.mpr c89
   clear c89
   replace H := Option.bind_eq_some_iff.mp H
   obtain ⟨t177, A900, H⟩ := H
   replace H : (some (t177 == (wrap64 (a2)))) = some r := H
   have A90 := Aside0.mk A900
   clear A900
   obtain rfl := Option.some.inj H
   try go_wp2
   have n0_ := Aside0.mk (blk_drew BK153.out)
   have n1_ := Aside0.mk (blk_drew BK161.out)
   have n2_ := Aside0.mk (below_drew1 HB.out)
   clear BK153
   clear BK161
   clear HB
   have BK153 := n0_
   have BK161 := n1_
   have HB := n2_
   clear n0_ n1_ n2_
   refine start_ (n := 70) (S := fun w' => w'.cell? ⟨gb153, 0, none⟩ = some (.int .i64 t148) ∧ w'.cell? ⟨gb153, 1, none⟩ = some (.int .i64 t149) ∧ w'.cell? ⟨gb153, 2, none⟩ = some (.int .i64 t150) ∧ w'.cell? ⟨gb153, 3, none⟩ = some (.int .i64 t151) ∧ w'.cell? ⟨gb161, 0, none⟩ = some (.int .i64 t156) ∧ w'.cell? ⟨gb161, 1, none⟩ = some (.int .i64 t157) ∧ w'.cell? ⟨gb161, 2, none⟩ = some (.int .i64 t158) ∧ w'.cell? ⟨gb161, 3, none⟩ = some (.int .i64 t159)) (ds := []) (HX 70 0) zk rfl rfl ⟨(blk_cell BK153.out 0).trans rfl, (blk_cell BK153.out 1).trans rfl, (blk_cell BK153.out 2).trans rfl, (blk_cell BK153.out 3).trans rfl, (blk_cell BK161.out 0).trans rfl, (blk_cell BK161.out 1).trans rfl, (blk_cell BK161.out 2).trans rfl, (blk_cell BK161.out 3).trans rfl⟩ (fun hHeld => ?_); refine with_tabW soundservicelaw05_GainMoves.tab8 soundservicelaw05_GainMoves.bits8 (fun HT_ HW_ => ?_)
   generalize wc.drew = w91 at BK153 BK161 HB hHeld ⊢
   refine zP 0 51 1 HT_ rfl rfl ?_
   refine zP 1 52 3 HT_ rfl rfl ?_
   refine zP 2 53 7 HT_ rfl rfl ?_
   refine zP 3 54 15 HT_ rfl rfl ?_
   refine zP 4 55 31 HT_ rfl rfl ?_
   refine zP 5 56 63 HT_ rfl rfl ?_
   refine zP 6 57 127 HT_ rfl rfl ?_
   refine zP 7 58 255 HT_ rfl rfl ?_
   refine zP 8 59 511 HT_ rfl rfl ?_
   refine zP 9 60 1023 HT_ rfl rfl ?_
   refine zP 11 62 3071 HT_ rfl rfl ?_
   refine zP 14 65 19455 HT_ rfl rfl ?_
   refine zP 16 67 84991 HT_ rfl rfl ?_
   refine zQ 10 61 86015 HT_ HW_ hHeld rfl rfl ?_
   refine zQ 12 63 90111 HT_ HW_ hHeld rfl rfl ?_
   refine zP 13 64 98303 HT_ rfl rfl ?_
   refine zQ 15 66 131071 HT_ HW_ hHeld rfl rfl ?_
   refine zQ 17 68 262143 HT_ HW_ hHeld rfl rfl ?_
   refine zP 18 69 524287 HT_ rfl rfl ?_
   refine zP 19 70 1048575 HT_ rfl rfl ?_
   refine zP 20 71 2097151 HT_ rfl rfl ?_
   refine zP 21 72 4194303 HT_ rfl rfl ?_
   refine zP 22 73 8388607 HT_ rfl rfl ?_
   refine zP 23 74 16777215 HT_ rfl rfl ?_
   refine zP 24 75 33554431 HT_ rfl rfl ?_
   refine zP 26 77 100663295 HT_ rfl rfl ?_
   refine zQ 25 76 134217727 HT_ HW_ hHeld rfl rfl ?_
   refine zQ 27 78 268435455 HT_ HW_ hHeld rfl rfl ?_
   refine zP 28 79 536870911 HT_ rfl rfl ?_
   refine zP 29 80 1073741823 HT_ rfl rfl ?_
   refine zP 30 81 2147483647 HT_ rfl rfl ?_
   refine zP 31 82 4294967295 HT_ rfl rfl ?_
   refine zP 32 83 8589934591 HT_ rfl rfl ?_
   refine zP 33 84 17179869183 HT_ rfl rfl ?_
   refine zP 34 85 34359738367 HT_ rfl rfl ?_
   refine zP 36 87 103079215103 HT_ rfl rfl ?_
   refine zQ 35 86 137438953471 HT_ HW_ hHeld rfl rfl ?_
   refine zQ 37 88 274877906943 HT_ HW_ hHeld rfl rfl ?_
   refine zP 38 89 549755813887 HT_ rfl rfl ?_
   refine zP 39 90 1099511627775 HT_ rfl rfl ?_
   refine zP 40 91 2199023255551 HT_ rfl rfl ?_
   refine zP 41 92 4398046511103 HT_ rfl rfl ?_
   refine zP 42 93 8796093022207 HT_ rfl rfl ?_
   refine zP 43 94 17592186044415 HT_ rfl rfl ?_
   refine zP 44 95 35184372088831 HT_ rfl rfl ?_
   refine zP 45 96 70368744177663 HT_ rfl rfl ?_
   refine zP 46 97 140737488355327 HT_ rfl rfl ?_
   refine zP 47 98 281474976710655 HT_ rfl rfl ?_
   refine zP 48 99 562949953421311 HT_ rfl rfl ?_
   refine zP 49 100 1125899906842623 HT_ rfl rfl ?_
   refine zP 50 101 2251799813685247 HT_ rfl rfl ?_
   refine zP 51 102 4503599627370495 HT_ rfl rfl ?_
   refine zP 52 103 9007199254740991 HT_ rfl rfl ?_
   refine zQ 53 104 18014398509481983 HT_ HW_ hHeld rfl rfl ?_
   refine zQ 55 106 54043195528445951 HT_ HW_ hHeld rfl rfl ?_
   refine one_ (i := 54) (N := some 105) (HX 70 72057594037927935) rfl rfl (one_of HT_.out zk) (by decide) (fun K hK => ?_)
   refine goes_ Try.func22 zk rfl #[.agg #[.int .i64 t156, .int .i64 t157, .int .i64 t158, .int .i64 t159], .int .i64 0] (by rfl) rfl rfl zA ?_
   with_reducible refine (gain_At.calls t156 t157 t158 t159 0 t175 _ A87.out).mono ?_
   rintro e w92 ⟨rfl, hb⟩
   refine ⟨_, rfl, ?_⟩
   have n0_ := Aside0.mk (blk_below (zB BK153) hb)
   have n1_ := Aside0.mk (blk_below (zB BK161) hb)
   have n2_ := Aside0.mk (below_step (zW HB) hb)
   clear BK153
   clear BK161
   clear HB
   have BK153 := n0_
   have BK161 := n1_
   have HB := n2_
   clear n0_ n1_ n2_
   (try clear hb)
   (try clear hb2)
   (try clear hk)
   (try clear hi)
   (try clear hgw)
   refine hK.out _ _ ⟨(blk_cell BK153.out 0).trans rfl, (blk_cell BK153.out 1).trans rfl, (blk_cell BK153.out 2).trans rfl, (blk_cell BK153.out 3).trans rfl, (blk_cell BK161.out 0).trans rfl, (blk_cell BK161.out 1).trans rfl, (blk_cell BK161.out 2).trans rfl, (blk_cell BK161.out 3).trans rfl⟩ (fun hHeld => ?_)
   clear hK K
   refine norm_ (a' := ?_) ?_ ?_
   rotate_left
   ·show Act.put _ (some 105) _ = _
    simp only [Act.put, List.setIfInBounds_toArray, List.set_cons_zero, List.set_cons_succ, i64_w, i32_w]
    rfl
   refine one_ (i := 56) (N := some 107) (HX 70 144115188075855871) rfl rfl (one_of HT_.out zk) (by decide) (fun K hK => ?_)
   refine goes_ Try.func22 zk rfl #[.agg #[.int .i64 t148, .int .i64 t149, .int .i64 t150, .int .i64 t151], .int .i64 0] (by rfl) rfl rfl zA ?_
   with_reducible refine (gain_At.calls t148 t149 t150 t151 0 t176 _ A88.out).mono ?_
   rintro e w93 ⟨rfl, hb⟩
   refine ⟨_, rfl, ?_⟩
   have n0_ := Aside0.mk (blk_below (zB BK153) hb)
   have n1_ := Aside0.mk (blk_below (zB BK161) hb)
   have n2_ := Aside0.mk (below_step (zW HB) hb)
   clear BK153
   clear BK161
   clear HB
   have BK153 := n0_
   have BK161 := n1_
   have HB := n2_
   clear n0_ n1_ n2_
   (try clear hb)
   (try clear hb2)
   (try clear hk)
   (try clear hi)
   (try clear hgw)
   refine hK.out _ _ ⟨(blk_cell BK153.out 0).trans rfl, (blk_cell BK153.out 1).trans rfl, (blk_cell BK153.out 2).trans rfl, (blk_cell BK153.out 3).trans rfl, (blk_cell BK161.out 0).trans rfl, (blk_cell BK161.out 1).trans rfl, (blk_cell BK161.out 2).trans rfl, (blk_cell BK161.out 3).trans rfl⟩ (fun hHeld => ?_)
   clear hK K
   refine norm_ (a' := ?_) ?_ ?_
   rotate_left
   ·show Act.put _ (some 107) _ = _
    simp only [Act.put, List.setIfInBounds_toArray, List.set_cons_zero, List.set_cons_succ, i64_w, i32_w]
    rfl
   refine zP 57 108 288230376151711743 HT_ rfl rfl ?_
   refine zP 58 109 576460752303423487 HT_ rfl rfl ?_
   refine zP 59 110 1152921504606846975 HT_ rfl rfl ?_
   refine zP 60 111 2305843009213693951 HT_ rfl rfl ?_
   refine zP 62 113 6917529027641081855 HT_ rfl rfl ?_
   refine zP 63 114 16140901064495857663 HT_ rfl rfl ?_
   refine zP 65 116 53034389211914960895 HT_ rfl rfl ?_
   refine zP 66 117 126821365506753167359 HT_ rfl rfl ?_
   refine zQ 61 112 129127208515966861311 HT_ HW_ hHeld rfl rfl ?_
   refine one_ (i := 64) (N := some 115) (HX 70 147573952589676412927) rfl rfl (one_of HT_.out zk) (by decide) (fun K hK => ?_)
   refine goes_ Try.func22 zk rfl #[.agg #[.int .i64 t156, .int .i64 t157, .int .i64 t158, .int .i64 t159], .int .i64 (wrap64 (a3))] (by rfl) rfl rfl zA ?_
   with_reducible refine (gain_At.calls t156 t157 t158 t159 (wrap64 (a3)) t177 _ A90.out).mono ?_
   rintro e w94 ⟨rfl, hb⟩
   refine ⟨_, rfl, ?_⟩
   have n0_ := Aside0.mk (blk_below (zB BK153) hb)
   have n1_ := Aside0.mk (blk_below (zB BK161) hb)
   have n2_ := Aside0.mk (below_step (zW HB) hb)
   clear BK153
   clear BK161
   clear HB
   have BK153 := n0_
   have BK161 := n1_
   have HB := n2_
   clear n0_ n1_ n2_
   (try clear hb)
   (try clear hb2)
   (try clear hk)
   (try clear hi)
   (try clear hgw)
   refine hK.out _ _ ⟨(blk_cell BK153.out 0).trans rfl, (blk_cell BK153.out 1).trans rfl, (blk_cell BK153.out 2).trans rfl, (blk_cell BK153.out 3).trans rfl, (blk_cell BK161.out 0).trans rfl, (blk_cell BK161.out 1).trans rfl, (blk_cell BK161.out 2).trans rfl, (blk_cell BK161.out 3).trans rfl⟩ (fun hHeld => ?_)
   clear hK K
   refine norm_ (a' := ?_) ?_ ?_
   rotate_left
   ·show Act.put _ (some 115) _ = _
    simp only [Act.put, List.setIfInBounds_toArray, List.set_cons_zero, List.set_cons_succ, i64_w, i32_w]
    rfl
   refine zP 67 118 295147905179352825855 HT_ rfl rfl ?_
   refine zP 68 119 590295810358705651711 HT_ rfl rfl ?_
   refine zP 69 8 1180591620717411303423 HT_ rfl rfl ?_
   refine done_ (done_of HT_.out zk) ?_
   try go_wp2
   go_ret
   exact ⟨zX, zW HB⟩

/-- THE ONE PURE STATEMENT of soundservicelaw05_GainMoves. -/
def soundservicelaw05_GainMoves.Pure : Prop := ∀ (l0 : List Int) (a1 : Int) (a2 : Int) (a3 : Int), l0.length ≤ maxLen → l0.length * 1 ≤ 140737488351232 → (∀ x ∈ l0, (Lit.int .u8 x).wf = true) → (Lit.int .u8 a1).wf = true → (Lit.int .u16 a2).wf = true → (Lit.int .u16 a3).wf = true → ∃ k, soundservicelaw05_GainMoves.f k l0 a1 a2 a3 = some true
theorem soundservicelaw05_GainMoves.walk (P : soundservicelaw05_GainMoves.Pure) (a0 : Option Addr) (len0 cap0 : Nat) (z0 : List Int) (a1 : Int) (a2 : Int) (a3 : Int) (w : World) (w0 : (a0 = none ∧ len0 = 0 ∧ cap0 = 0 ∧ z0 = []) ∨ ∃ x, a0 = some x ∧ len0 ≤ cap0 ∧ cap0 ≤ maxLen ∧ z0.length = cap0 ∧ (∀ i, i < z0.length → w.cell? (x.add i) = some (.int .u8 (z0.getD i 0))) ∧ ∀ n ∈ z0, (Lit.int .u8 n).wf = true) (y0 : len0 * 1 ≤ 140737488351232) (w1 : (Lit.int .u8 a1).wf = true) (w2 : (Lit.int .u16 a2).wf = true) (w3 : (Lit.int .u16 a3).wf = true) :
  Calls Try.prog 8 #[.slice a0 len0 cap0, .int .u8 a1, .int .u16 a2, .int .u16 a3] w fun e w' => e = .returned (.bool true) ∧ Below w.heap.size w w' := by
 obtain ⟨l0, rfl, hr0, hm0, hw0, hc0⟩ := ReadsInt.ofRowC w0
 obtain ⟨k, h⟩ := P l0 a1 a2 a3 hm0 y0 hw0 w1 w2 w3
 refine (soundservicelaw05_GainMoves.calls k _ _ l0 a1 a2 a3 true w (Kd.C_of_reads (d := (0 : Int)) (h1 := fun _ => rfl) hr0) hc0 rfl h).mono ?_
 rintro e w' ⟨rfl, hd⟩
 exact ⟨rfl, hd⟩

end Go.Proofs.Ytegodmjmoagajaa.QM
