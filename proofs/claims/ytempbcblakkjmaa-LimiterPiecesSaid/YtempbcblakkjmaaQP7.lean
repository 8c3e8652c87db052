-- Written by a program of this session, out of the seat's translation; checked by the kernel alone.
import Derived.Test.YtempbcblakkjmaaQP0
import Derived.Test.YtempbcblakkjmaaQP1
import Derived.Test.YtempbcblakkjmaaQP3
import Derived.Test.YtempbcblakkjmaaQP4
import Derived.Test.YtempbcblakkjmaaQP5
import Derived.Test.YtempbcblakkjmaaQP6
namespace Go.Proofs.Ytempbcblakkjmaa.QP
open Go.RowKit Go.Proofs.YtempbcblakkjmaaW.PrintWords Go.Proofs.YtempbcblakkjmaaW.PrintLast Go.Proofs.YtempbcblakkjmaaW.PrintMore
attribute [local go_sem] max2_int min2_int max_two min_two max_three min_three max_four min_four   -- for this text's walks alone
set_option linter.unusedVariables false
set_option linter.unusedSimpArgs false

attribute [local go_sem high] eqA23
/-! ### soundservicelaw08_LimiterPieces: function 5 -/
mutual
def soundservicelaw08_LimiterPieces.l0 : Nat → List Int → List Int → Int → Int → Int → Int → Int → Int → Int → List Int → Int → Int → Int → Int → List Int → Option (Bool)
  | 0, _, _, _, _, _, _, _, _, _, _, _, _, _, _, _ => none
  | k + 1, x1, x7, x10, x12, x13, x225000, x225001, x225002, x240000, x240001, x241000, x241001, x241002, x242000, x242001 => if x13 ≤ (x1.length : Int) then (if x13 < (x1.length : Int) then (if 0 ≤ x13 then (soundservicelaw08_LimiterPieces.j1 k x1 x7 x10 x12 x13 (mn (x7.length : Int) (wrap64 (x12 + (wrap64 (3 * (wrap64 (Int.tmod (rd x1 x13) 5))))))) x225000 x225001 x225002 x240000 x240001 x241000 x241001 x241002 x242000 x242001) else (none)) else (soundservicelaw08_LimiterPieces.j1 k x1 x7 x10 x12 x13 (x7.length : Int) x225000 x225001 x225002 x240000 x240001 x241000 x241001 x241002 x242000 x242001)) else (if x10 = 0 then (if (x225000 == x241000 && (x225001 == x241001 && (x225002 == x241002))) = true then ((soundserviceref04_Same.f k x242000 x242001 x240000 x240001).bind fun t242 => (some t242)) else (some false)) else (some false))
def soundservicelaw08_LimiterPieces.j1 : Nat → List Int → List Int → Int → Int → Int → Int → Int → Int → Int → Int → List Int → Int → Int → Int → Int → List Int → Option (Bool)
  | 0, _, _, _, _, _, _, _, _, _, _, _, _, _, _, _, _ => none
  | k + 1, x1, x7, x10, x12, x13, x14, x225000, x225001, x225002, x240000, x240001, x241000, x241001, x241002, x242000, x242001 => if 0 ≤ x12 then (if x12 ≤ x14 then (if x14 ≤ (x7.length : Int) then ((limiter_Run.f k x225000 x225001 x225002 3 ((x7.take (x14 : Int).toNat).drop (x12 : Int).toNat)).bind fun bt248 => (if bt248.2.2.2.2.2 = 0 then ((soundserviceref04_Join.f x242000 x242001 bt248.1 bt248.2.1).bind fun bt258 => (soundservicelaw08_LimiterPieces.l0 k x1 x7 x10 x14 (wrap64 (x13 + 1)) bt248.2.2.1 bt248.2.2.2.1 bt248.2.2.2.2.1 x240000 x240001 x241000 x241001 x241002 bt258.1 bt258.2)) else (some false))) else (none)) else (none)) else (none)
end
def soundservicelaw08_LimiterPieces.f (k : Nat) (l0 : List Int) (l1 : List Int) : Option (Bool) := (soundservicelaw08_sane.f k).bind fun t217 => (if t217 = true then (if (l1.length : Int) > 10 then (some true) else ((soundservicemade_New.f l0).bind fun t218 => ((soundservicelaw08_made.f t218).bind fun bt220 => ((soundservicemade_Dice_Next.f bt220.2.2.2 12).bind fun bt225 => ((soundservicelaw08_sums.f k bt225.2 (wrap64 (3 * bt225.1))).bind fun bt227 => ((limiter_Run.f k bt220.1 bt220.2.1 bt220.2.2.1 3 bt227.1).bind fun bt231 => (soundservicelaw08_LimiterPieces.l0 k l1 bt227.1 bt231.2.2.2.2.2 0 0 bt220.1 bt220.2.1 bt220.2.2.1 bt231.1 bt231.2.1 bt231.2.2.1 bt231.2.2.2.1 bt231.2.2.2.2.1 3 ([] : List Int)))))))) else (some false))
theorem soundservicelaw08_LimiterPieces.mono_l : ∀ k, (∀ y0 y1 y2 y3 y4 y5 y6 y7 y8 y9 y10 y11 y12 y13 y14, LeO (soundservicelaw08_LimiterPieces.l0 k y0 y1 y2 y3 y4 y5 y6 y7 y8 y9 y10 y11 y12 y13 y14) (soundservicelaw08_LimiterPieces.l0 (k + 1) y0 y1 y2 y3 y4 y5 y6 y7 y8 y9 y10 y11 y12 y13 y14)) ∧ (∀ y0 y1 y2 y3 y4 y5 y6 y7 y8 y9 y10 y11 y12 y13 y14 y15, LeO (soundservicelaw08_LimiterPieces.j1 k y0 y1 y2 y3 y4 y5 y6 y7 y8 y9 y10 y11 y12 y13 y14 y15) (soundservicelaw08_LimiterPieces.j1 (k + 1) y0 y1 y2 y3 y4 y5 y6 y7 y8 y9 y10 y11 y12 y13 y14 y15))
  | 0 => ⟨fun _ _ _ _ _ _ _ _ _ _ _ _ _ _ _ r h => by simp [soundservicelaw08_LimiterPieces.l0] at h, fun _ _ _ _ _ _ _ _ _ _ _ _ _ _ _ _ r h => by simp [soundservicelaw08_LimiterPieces.j1] at h⟩
  | k + 1 => by
    obtain ⟨ih0, ih1⟩ := soundservicelaw08_LimiterPieces.mono_l k
    refine ⟨?_, ?_⟩
    · intro y0 y1 y2 y3 y4 y5 y6 y7 y8 y9 y10 y11 y12 y13 y14
      unfold soundservicelaw08_LimiterPieces.l0
      repeat' first
      | (with_reducible exact ih0 _ _ _ _ _ _ _ _ _ _ _ _ _ _ _)
      | (with_reducible exact ih1 _ _ _ _ _ _ _ _ _ _ _ _ _ _ _ _)
      | (with_reducible exact limiter_Run.mono _ _ _ _ _ _)
      | (with_reducible exact soundservicelaw08_sane.mono _)
      | (with_reducible exact soundservicelaw08_sums.mono _ _ _)
      | (with_reducible exact soundserviceref04_Same.mono _ _ _ _ _)
      | (with_reducible exact LeO.refl _)
      | (with_reducible exact LeO.none _)
      | (with_reducible refine LeO.ite ?_ ?_)
      | (with_reducible refine LeO.bind ?_ (fun _ => ?_))
      | exact ih0 _ _ _ _ _ _ _ _ _ _ _ _ _ _ _
      | exact ih1 _ _ _ _ _ _ _ _ _ _ _ _ _ _ _ _
      | exact limiter_Run.mono _ _ _ _ _ _
      | exact soundservicelaw08_sane.mono _
      | exact soundservicelaw08_sums.mono _ _ _
      | exact soundserviceref04_Same.mono _ _ _ _ _
      | exact LeO.none _
      | refine LeO.ite ?_ ?_
      | refine LeO.bind ?_ (fun _ => ?_)
    · intro y0 y1 y2 y3 y4 y5 y6 y7 y8 y9 y10 y11 y12 y13 y14 y15
      unfold soundservicelaw08_LimiterPieces.j1
      repeat' first
      | (with_reducible exact ih0 _ _ _ _ _ _ _ _ _ _ _ _ _ _ _)
      | (with_reducible exact ih1 _ _ _ _ _ _ _ _ _ _ _ _ _ _ _ _)
      | (with_reducible exact limiter_Run.mono _ _ _ _ _ _)
      | (with_reducible exact soundservicelaw08_sane.mono _)
      | (with_reducible exact soundservicelaw08_sums.mono _ _ _)
      | (with_reducible exact soundserviceref04_Same.mono _ _ _ _ _)
      | (with_reducible exact LeO.refl _)
      | (with_reducible exact LeO.none _)
      | (with_reducible refine LeO.ite ?_ ?_)
      | (with_reducible refine LeO.bind ?_ (fun _ => ?_))
      | exact ih0 _ _ _ _ _ _ _ _ _ _ _ _ _ _ _
      | exact ih1 _ _ _ _ _ _ _ _ _ _ _ _ _ _ _ _
      | exact limiter_Run.mono _ _ _ _ _ _
      | exact soundservicelaw08_sane.mono _
      | exact soundservicelaw08_sums.mono _ _ _
      | exact soundserviceref04_Same.mono _ _ _ _ _
      | exact LeO.none _
      | refine LeO.ite ?_ ?_
      | refine LeO.bind ?_ (fun _ => ?_)
theorem soundservicelaw08_LimiterPieces.mono : ∀ a0 a1 k, LeO (soundservicelaw08_LimiterPieces.f k a0 a1) (soundservicelaw08_LimiterPieces.f (k + 1) a0 a1) := by
  intro a0 a1 k
  obtain ⟨ih0, ih1⟩ := soundservicelaw08_LimiterPieces.mono_l k
  unfold soundservicelaw08_LimiterPieces.f
  repeat' first
      | (with_reducible exact ih0 _ _ _ _ _ _ _ _ _ _ _ _ _ _ _)
      | (with_reducible exact ih1 _ _ _ _ _ _ _ _ _ _ _ _ _ _ _ _)
      | (with_reducible exact limiter_Run.mono _ _ _ _ _ _)
      | (with_reducible exact soundservicelaw08_sane.mono _)
      | (with_reducible exact soundservicelaw08_sums.mono _ _ _)
      | (with_reducible exact soundserviceref04_Same.mono _ _ _ _ _)
      | (with_reducible exact LeO.refl _)
      | (with_reducible exact LeO.none _)
      | (with_reducible refine LeO.ite ?_ ?_)
      | (with_reducible refine LeO.bind ?_ (fun _ => ?_))
      | exact ih0 _ _ _ _ _ _ _ _ _ _ _ _ _ _ _
      | exact ih1 _ _ _ _ _ _ _ _ _ _ _ _ _ _ _ _
      | exact limiter_Run.mono _ _ _ _ _ _
      | exact soundservicelaw08_sane.mono _
      | exact soundservicelaw08_sums.mono _ _ _
      | exact soundserviceref04_Same.mono _ _ _ _ _
      | exact LeO.none _
      | refine LeO.ite ?_ ?_
      | refine LeO.bind ?_ (fun _ => ?_)
def soundservicelaw08_LimiterPieces.T17 : Bool × List (List Nat × List Nat) := (true, [([], []), ([], []), ([], []), ([], []), ([1, 2, 3], [1, 2, 3]), ([0, 4], [0, 4]), ([5], [5]), ([6], [6]), ([6], [6]), ([6], [6]), ([], []), ([], []), ([10, 7, 5, 0, 1, 2, 3, 4, 5, 6, 7, 10, 11], [7, 10]), ([11, 8, 12, 0, 1, 2, 3, 4, 5, 6, 7, 8, 10, 11, 12], [8, 11]), ([9, 13, 0, 1, 2, 3, 4, 5, 6, 7, 8, 9, 10, 11, 12, 13], [9])])
def soundservicelaw08_LimiterPieces.B17 : List Nat := [0, 0, 0, 0, 14, 31, 63, 127, 127, 127, 0, 0, 3327, 7679, 16383]
theorem soundservicelaw08_LimiterPieces.tab17 : rtab .any (opsOf Try.f5 17) = soundservicelaw08_LimiterPieces.T17 := by kernel_rfl
theorem soundservicelaw08_LimiterPieces.bits17 : waitsOk soundservicelaw08_LimiterPieces.T17.2 soundservicelaw08_LimiterPieces.B17 = true := by kernel_rfl
def soundservicelaw08_LimiterPieces.T20 : Bool × List (List Nat × List Nat) := (true, [([], []), ([], []), ([0, 1], [0, 1]), ([], []), ([], []), ([2, 2, 0, 1, 2], [2]), ([3, 5, 0, 1, 2, 3, 5], [3]), ([4, 6, 0, 1, 2, 3, 4, 5, 6], [4])])
def soundservicelaw08_LimiterPieces.B20 : List Nat := [0, 0, 3, 0, 0, 7, 47, 127]
theorem soundservicelaw08_LimiterPieces.tab20 : rtab .any (opsOf Try.f5 20) = soundservicelaw08_LimiterPieces.T20 := by kernel_rfl
theorem soundservicelaw08_LimiterPieces.bits20 : waitsOk soundservicelaw08_LimiterPieces.T20.2 soundservicelaw08_LimiterPieces.B20 = true := by kernel_rfl
set_option maxHeartbeats 8000000 in
set_option maxRecDepth 100000 in
theorem soundservicelaw08_LimiterPieces.calls (k : Nat) (A0 : Option Addr) (c0 : Nat) (l0 : List Int) (A1 : Option Addr) (c1 : Nat) (l1 : List Int) (r : Bool) (w : World) (hr0 : Kd.C (Kd.int .u8) w A0 l0.length l0) (hc0 : l0.length ≤ c0) (hr1 : Kd.C (Kd.int .u8) w A1 l1.length l1) (hc1 : l1.length ≤ c1) (hr_ : r = true) (h : soundservicelaw08_LimiterPieces.f k l0 l1 = some r) :
    Calls Try.prog 5 #[.slice A0 l0.length c0, .slice A1 l1.length c1] w fun e w' => e = .returned (.bool r) ∧ Below w.heap.size w w' := by
  have hu23 := Try.underlying23
  have hu36 := Try.underlying36
  have HR_ := Aside0.mk hr_
  clear hr_
  have HR0 := Aside0.mk hr0
  have HC0 := Aside0.mk hc0
  clear hr0 hc0
  have HR1 := Aside0.mk hr1
  have HC1 := Aside0.mk hc1
  clear hr1 hc1
  have HB := Aside0.mk (Below.refl w.heap.size w)
  have H : ((soundservicelaw08_sane.f k).bind fun t217 => (if t217 = true then (if (l1.length : Int) > 10 then (some true) else ((soundservicemade_New.f l0).bind fun t218 => ((soundservicelaw08_made.f t218).bind fun bt220 => ((soundservicemade_Dice_Next.f bt220.2.2.2 12).bind fun bt225 => ((soundservicelaw08_sums.f k bt225.2 (wrap64 (3 * bt225.1))).bind fun bt227 => ((limiter_Run.f k bt220.1 bt220.2.1 bt220.2.2.1 3 bt227.1).bind fun bt231 => (soundservicelaw08_LimiterPieces.l0 k l1 bt227.1 bt231.2.2.2.2.2 0 0 bt220.1 bt220.2.1 bt220.2.2.1 bt231.1 bt231.2.1 bt231.2.2.1 bt231.2.2.2.1 bt231.2.2.2.2.1 3 ([] : List Int)))))))) else (some false))) = some r := h
  clear h
  replace H := Option.bind_eq_some_iff.mp H
  obtain ⟨t217, A30, H⟩ := H
  replace H : (if t217 = true then (if (l1.length : Int) > 10 then (some true) else ((soundservicemade_New.f l0).bind fun t218 => ((soundservicelaw08_made.f t218).bind fun bt220 => ((soundservicemade_Dice_Next.f bt220.2.2.2 12).bind fun bt225 => ((soundservicelaw08_sums.f k bt225.2 (wrap64 (3 * bt225.1))).bind fun bt227 => ((limiter_Run.f k bt220.1 bt220.2.1 bt220.2.2.1 3 bt227.1).bind fun bt231 => (soundservicelaw08_LimiterPieces.l0 k l1 bt227.1 bt231.2.2.2.2.2 0 0 bt220.1 bt220.2.1 bt220.2.2.1 bt231.1 bt231.2.1 bt231.2.2.1 bt231.2.2.2.1 bt231.2.2.2.2.1 3 ([] : List Int)))))))) else (some false)) = some r := H
  have A3 := Aside0.mk A30
  clear A30
  by_cases c4 : t217 = true
  · subst c4
    have H1 : (if (l1.length : Int) > 10 then (some true) else ((soundservicemade_New.f l0).bind fun t218 => ((soundservicelaw08_made.f t218).bind fun bt220 => ((soundservicemade_Dice_Next.f bt220.2.2.2 12).bind fun bt225 => ((soundservicelaw08_sums.f k bt225.2 (wrap64 (3 * bt225.1))).bind fun bt227 => ((limiter_Run.f k bt220.1 bt220.2.1 bt220.2.2.1 3 bt227.1).bind fun bt231 => (soundservicelaw08_LimiterPieces.l0 k l1 bt227.1 bt231.2.2.2.2.2 0 0 bt220.1 bt220.2.1 bt220.2.2.1 bt231.1 bt231.2.1 bt231.2.2.1 bt231.2.2.2.1 bt231.2.2.2.2.1 3 ([] : List Int)))))))) = some r := by rw [if_pos rfl] at H; exact H
    clear H
    have H := H1
    clear H1
    by_cases c5 : (l1.length : Int) > 10
    · rw [if_pos c5] at H
      have c5b0 : decide (10 < (l1.length : Int)) = true := decide_eq_true c5
      have c5b1 : decide (10 < l1.length) = true := decide_eq_true (by omega)
      clear c5
      obtain rfl := Option.some.inj H
      go_enter Try.func5, Try.ntmps5
      go_wp2_with (first | ((with_reducible refine gate_callee (f := 8) rfl ?_); refine goesL_ (some 18) rfl rfl Try.func8 (by kernel_rfl) rfl #[] rfl (by (try simp only [List.map_toArray, List.map_cons, List.map_nil]); first | done | rfl | (simp only [List.length_drop, List.length_take]; rfl)) ?_; (with_reducible refine (soundservicelaw08_sane.calls k  true _ A3.out).mono ?_); rintro e w6 ⟨rfl, hb⟩; refine ⟨_, rfl, ?_⟩; have n0_ := Aside0.mk (below_step (by repeat (first | (with_reducible first | exact HB.out | apply below_alloc | apply pw_below_drewN | apply below_drew1) | exact HB.out)) hb); clear HB; have HB := n0_; clear n0_; (try clear hb); (try clear hb2); (try clear hk); (try clear hi)))
      go_ret
      exact ⟨by first | rfl | (simp [errW_none, errW_some] <;> rfl) | (simp [*, errW_none, errW_some] <;> rfl), by repeat (first | (with_reducible first | exact HB.out | apply below_alloc | apply pw_below_drewN | apply below_drew1) | exact HB.out)⟩
    · rw [if_neg c5] at H
      have c5b0 : decide (10 < (l1.length : Int)) = false := decide_eq_false c5
      have c5b1 : decide (10 < l1.length) = false := decide_eq_false (by omega)
      clear c5
      replace H := Option.bind_eq_some_iff.mp H
      obtain ⟨t218, A70, H⟩ := H
      replace H : ((soundservicelaw08_made.f t218).bind fun bt220 => ((soundservicemade_Dice_Next.f bt220.2.2.2 12).bind fun bt225 => ((soundservicelaw08_sums.f k bt225.2 (wrap64 (3 * bt225.1))).bind fun bt227 => ((limiter_Run.f k bt220.1 bt220.2.1 bt220.2.2.1 3 bt227.1).bind fun bt231 => (soundservicelaw08_LimiterPieces.l0 k l1 bt227.1 bt231.2.2.2.2.2 0 0 bt220.1 bt220.2.1 bt220.2.2.1 bt231.1 bt231.2.1 bt231.2.2.1 bt231.2.2.2.1 bt231.2.2.2.2.1 3 ([] : List Int)))))) = some r := H
      have A7 := Aside0.mk A70
      clear A70
      replace H := Option.bind_eq_some_iff.mp H
      obtain ⟨⟨t220, t221, t222, t223⟩, A80, H⟩ := H
      replace H : ((soundservicemade_Dice_Next.f t223 12).bind fun bt225 => ((soundservicelaw08_sums.f k bt225.2 (wrap64 (3 * bt225.1))).bind fun bt227 => ((limiter_Run.f k t220 t221 t222 3 bt227.1).bind fun bt231 => (soundservicelaw08_LimiterPieces.l0 k l1 bt227.1 bt231.2.2.2.2.2 0 0 t220 t221 t222 bt231.1 bt231.2.1 bt231.2.2.1 bt231.2.2.2.1 bt231.2.2.2.2.1 3 ([] : List Int))))) = some r := H
      have A8 := Aside0.mk A80
      clear A80
      replace H := Option.bind_eq_some_iff.mp H
      obtain ⟨⟨t225, t226⟩, A90, H⟩ := H
      replace H : ((soundservicelaw08_sums.f k t226 (wrap64 (3 * t225))).bind fun bt227 => ((limiter_Run.f k t220 t221 t222 3 bt227.1).bind fun bt231 => (soundservicelaw08_LimiterPieces.l0 k l1 bt227.1 bt231.2.2.2.2.2 0 0 t220 t221 t222 bt231.1 bt231.2.1 bt231.2.2.1 bt231.2.2.2.1 bt231.2.2.2.2.1 3 ([] : List Int)))) = some r := H
      have A9 := Aside0.mk A90
      clear A90
      replace H := Option.bind_eq_some_iff.mp H
      obtain ⟨⟨t227, t230⟩, A100, H⟩ := H
      replace H : ((limiter_Run.f k t220 t221 t222 3 t227).bind fun bt231 => (soundservicelaw08_LimiterPieces.l0 k l1 t227 bt231.2.2.2.2.2 0 0 t220 t221 t222 bt231.1 bt231.2.1 bt231.2.2.1 bt231.2.2.2.1 bt231.2.2.2.2.1 3 ([] : List Int))) = some r := H
      have A10 := Aside0.mk A100
      clear A100
      replace H := Option.bind_eq_some_iff.mp H
      obtain ⟨⟨t231, t232, t235, t236, t237, t238⟩, A110, H⟩ := H
      replace H : (soundservicelaw08_LimiterPieces.l0 k l1 t227 t238 0 0 t220 t221 t222 t231 t232 t235 t236 t237 3 ([] : List Int)) = some r := H
      have A11 := Aside0.mk A110
      clear A110
      have H' := Aside0.mk H
      clear H
      go_enter Try.func5, Try.ntmps5
      go_wp2_with (first | ((with_reducible refine gate_callee (f := 8) rfl ?_); refine goesL_ (some 18) rfl rfl Try.func8 (by kernel_rfl) rfl #[] rfl (by (try simp only [List.map_toArray, List.map_cons, List.map_nil]); first | done | rfl | (simp only [List.length_drop, List.length_take]; rfl)) ?_; (with_reducible refine (soundservicelaw08_sane.calls k  true _ A3.out).mono ?_); rintro e w12 ⟨rfl, hb⟩; refine ⟨_, rfl, ?_⟩; have n0_ := Aside0.mk (below_step (by repeat (first | (with_reducible first | exact HB.out | apply below_alloc | apply pw_below_drewN | apply below_drew1) | exact HB.out)) hb); clear HB; have HB := n0_; clear n0_; (try clear hb); (try clear hb2); (try clear hk); (try clear hi)) | ((with_reducible refine gate_callee (f := 9) rfl ?_); refine goesL_ (some 24) rfl rfl Try.func9 (by kernel_rfl) rfl #[.slice A0 l0.length c0] rfl (by (try simp only [List.map_toArray, List.map_cons, List.map_nil]); first | done | rfl | (simp only [List.length_drop, List.length_take]; rfl)) ?_; (with_reducible refine (soundservicemade_New.calls _ _ l0 t218 w _ ?side1 ?side2 ?side3 A7.out).mono ?_); (case side1 => repeat (first | (with_reducible first | exact HB.out | apply below_alloc | apply pw_below_drewN | apply below_drew1) | exact HB.out)); (case side2 => exact HR0.out); (case side3 => exact HC0.out); rintro e w13 ⟨g219, rfl, hi, hb, hb2⟩; refine ⟨_, rfl, ?_⟩; have n0_ := Aside0.mk (hb); have n1_ := Aside0.mk (hi); clear HB; have HB := n0_; have HI219 := n1_; clear n0_ n1_; (try clear hb); (try clear hb2); (try clear hk); (try clear hi)) | ((with_reducible refine gate_callee (f := 10) rfl ?_); refine goesL_ (some 26) rfl rfl Try.func10 (by kernel_rfl) rfl #[.pointer (some ⟨g219, 0, none⟩)] rfl (by (try simp only [List.map_toArray, List.map_cons, List.map_nil]); first | done | rfl | (simp only [List.length_drop, List.length_take]; rfl)) ?_; (with_reducible refine (soundservicelaw08_made.calls g219 t218 t220 t221 t222 t223 w _ ?side1 ?side2 A8.out).mono ?_); (case side1 => repeat (first | (with_reducible first | exact HI219.out | apply IsS56.alloc | apply IsS56.drewN | apply IsS56.drew | apply IsS56.set_0) | exact HI219.out)); (case side2 => repeat (first | (with_reducible first | exact HB.out | apply below_alloc | apply pw_below_drewN | apply below_drew1 | refine below_set ?_ (IsS56.ge HI219.out)) | exact HB.out)); rintro e w14 ⟨rfl, hi, hb, hk⟩; refine ⟨_, rfl, ?_⟩; have n0_ := Aside0.mk (hb); have n1_ := Aside0.mk (hi); clear HB; clear HI219; have HB := n0_; have HI219 := n1_; clear n0_ n1_; (try clear hb); (try clear hb2); (try clear hk); (try clear hi)) | ((with_reducible refine gate_dst (N := 6) rfl ?_); refine box_event ?hg (N := 6) ?hd (cs := #[.int .i64 0, .int .i64 0, .int .i64 0]) (t := 23) ?hr ?_; (case hd => rfl); (case hg => rfl); (case hr => first | (go_simp; done) | (go_simp; rfl)); intro gb224 hg w15 hbox hb; have n0_ := Aside0.mk (IsS56.below (by repeat (first | (with_reducible first | exact HI219.out | apply IsS56.alloc | apply IsS56.drewN | apply IsS56.drew | apply IsS56.set_0) | exact HI219.out)) hb); have n1_ := Aside0.mk (below_step (by repeat (first | (with_reducible first | exact HB.out | apply below_alloc | apply pw_below_drewN | apply below_drew1 | refine below_set ?_ (IsS56.ge HI219.out)) | exact HB.out)) hb); have n2_ := Aside0.mk (hbox); have n3_ := Aside0.mk ((by rw [hg]; exact (below_size (by repeat (first | (with_reducible first | exact HB.out | apply below_alloc | apply pw_below_drewN | apply below_drew1 | refine below_set ?_ (IsS56.ge HI219.out)) | exact HB.out))) : w.heap.size ≤ gb224)); have n4_ := Aside0.mk ((by rw [hg]; exact (below_size (by repeat (first | (with_reducible first | exact HB.out | apply below_alloc | apply pw_below_drewN | apply below_drew1 | refine below_set ?_ (IsS56.ge HI219.out)) | exact HB.out))) : w.heap.size ≤ gb224)); have n5_ := Aside0.mk ((by rw [hg]; exact Nat.ne_of_lt (IsS56.lt (show IsS56 w _ g219 t223 from by repeat (first | (with_reducible first | exact HI219.out | apply IsS56.alloc | apply IsS56.drewN | apply IsS56.drew | apply IsS56.set_0) | exact HI219.out))) : g219 ≠ gb224)); have n6_ := Aside0.mk ((by rw [hg]; exact Nat.ne_of_gt (IsS56.lt (show IsS56 w _ g219 t223 from by repeat (first | (with_reducible first | exact HI219.out | apply IsS56.alloc | apply IsS56.drewN | apply IsS56.drew | apply IsS56.set_0) | exact HI219.out))) : gb224 ≠ g219)); clear HI219; clear HB; have HI219 := n0_; have HB := n1_; have BK224 := n2_; have GW224 := n3_; have GE224 := n4_; have NB219_224 := n5_; have NB224_219 := n6_; clear n0_ n1_ n2_ n3_ n4_ n5_ n6_; clear hb hbox hg; have hnb16 := NB224_219.out; have hnc16 := NB219_224.out; have hcz17_0 : w15.cell? ⟨gb224, 0, none⟩ = some (.int .i64 0) := (blk_cell BK224.out 0).trans rfl; have hcz17_1 : w15.cell? ⟨gb224, 1, none⟩ = some (.int .i64 0) := (blk_cell BK224.out 1).trans rfl; have hcz17_2 : w15.cell? ⟨gb224, 2, none⟩ = some (.int .i64 0) := (blk_cell BK224.out 2).trans rfl; have hfz17_0 := blk_frozen BK224.out 0; have hfz17_1 := blk_frozen BK224.out 1; have hfz17_2 := blk_frozen BK224.out 2) | ((with_reducible refine gate_callee (f := 21) rfl ?_); refine goesL_ (some 29) rfl rfl Try.func21 (by kernel_rfl) rfl #[.pointer (some ⟨g219, 0, none⟩), .int .i64 12] rfl (by (try simp only [List.map_toArray, List.map_cons, List.map_nil]); first | done | rfl | (simp only [List.length_drop, List.length_take]; rfl)) ?_; (with_reducible refine (soundservicemade_Dice_Next.calls g219 t223 12 t225 t226 w _ ?side1 ?side2 A9.out).mono ?_); (case side1 => repeat (first | (with_reducible first | exact HI219.out | apply IsS56.alloc | apply IsS56.drewN | apply IsS56.drew | apply IsS56.set_0 | refine IsS56.far ?_ NB219_224.out _) | exact HI219.out)); (case side2 => repeat (first | (with_reducible first | exact HB.out | apply below_alloc | apply pw_below_drewN | apply below_drew1 | refine below_set ?_ (IsS56.ge HI219.out) | refine below_set ?_ GE224.out) | exact HB.out)); rintro e w18 ⟨rfl, hi, hb, hk⟩; refine ⟨_, rfl, ?_⟩; have n0_ := Aside0.mk (KeepBut.blk hk (g' := gb224) (o := .cells #[.int .i64 t220, .int .i64 t221, .int .i64 t222] 23 (0, 0)) (by (with_reducible repeat (first | refine blk_drewN ?_ _ | refine blk_drew ?_ | refine blk_alloc ?_ _)); refine blk_put (cs := #[.int .i64 t220, .int .i64 t221, .int .i64 0]) ?_ 2 _ rfl; (with_reducible repeat (first | refine blk_drewN ?_ _ | refine blk_drew ?_ | refine blk_alloc ?_ _)); refine blk_put (cs := #[.int .i64 t220, .int .i64 0, .int .i64 0]) ?_ 1 _ rfl; (with_reducible repeat (first | refine blk_drewN ?_ _ | refine blk_drew ?_ | refine blk_alloc ?_ _)); refine blk_put (cs := #[.int .i64 0, .int .i64 0, .int .i64 0]) ?_ 0 _ rfl; (with_reducible repeat (first | refine blk_drewN ?_ _ | refine blk_drew ?_ | refine blk_alloc ?_ _)); exact BK224.out) NB224_219.out (by simp)); have n1_ := Aside0.mk (hb); have n2_ := Aside0.mk (hi); clear BK224; clear HB; clear HI219; have BK224 := n0_; have HB := n1_; have HI219 := n2_; clear n0_ n1_ n2_; (try clear hb); (try clear hb2); (try clear hk); (try clear hi)) | ((with_reducible refine gate_callee (f := 11) rfl ?_); refine goesL_ (some 31) rfl rfl Try.func11 (by kernel_rfl) rfl #[.pointer (some ⟨g219, 0, none⟩), .int .i64 (wrap64 (3 * t225))] rfl (by (try simp only [List.map_toArray, List.map_cons, List.map_nil]); first | done | rfl | (simp only [List.length_drop, List.length_take]; rfl)) ?_; (with_reducible refine (soundservicelaw08_sums.calls k g219 t226 (wrap64 (3 * t225)) t227 t230 w _ ?side1 ?side2 A10.out).mono ?_); (case side1 => repeat (first | (with_reducible first | exact HI219.out | apply IsS56.alloc | apply IsS56.drewN | apply IsS56.drew | apply IsS56.set_0 | refine IsS56.far ?_ NB219_224.out _) | exact HI219.out)); (case side2 => repeat (first | (with_reducible first | exact HB.out | apply below_alloc | apply pw_below_drewN | apply below_drew1 | refine below_set ?_ (IsS56.ge HI219.out) | refine below_set ?_ GE224.out) | exact HB.out)); rintro e w19 ⟨v228, rfl, ho0, hi, hb, hk⟩; refine ⟨_, rfl, ?_⟩; have n0_ := Aside0.mk (KeepBut.blk hk (g' := gb224) (o := .cells #[.int .i64 t220, .int .i64 t221, .int .i64 t222] 23 (0, 0)) (by (with_reducible repeat (first | refine blk_drewN ?_ _ | refine blk_drew ?_ | refine blk_alloc ?_ _)); exact BK224.out) NB224_219.out (by simp)); have n1_ := Aside0.mk (Kd.R_lower ho0 (below_size (by repeat (first | (with_reducible first | exact HB.out | apply below_alloc | apply pw_below_drewN | apply below_drew1 | refine below_set ?_ (IsS56.ge HI219.out) | refine below_set ?_ GE224.out) | exact HB.out)))); have n2_ := Aside0.mk (hb); have n3_ := Aside0.mk (hi); clear BK224; clear HB; clear HI219; have BK224 := n0_; have HO229 := n1_; have HB := n2_; have HI219 := n3_; clear n0_ n1_ n2_ n3_; (try clear hb); (try clear hb2); (try clear hk); (try clear hi); (try clear ho0); have hcz20_0 : w19.cell? ⟨gb224, 0, none⟩ = some (.int .i64 t220) := (blk_cell BK224.out 0).trans rfl; have hcz20_1 : w19.cell? ⟨gb224, 1, none⟩ = some (.int .i64 t221) := (blk_cell BK224.out 1).trans rfl; have hcz20_2 : w19.cell? ⟨gb224, 2, none⟩ = some (.int .i64 t222) := (blk_cell BK224.out 2).trans rfl; have hfz20_0 := blk_frozen BK224.out 0; have hfz20_1 := blk_frozen BK224.out 1; have hfz20_2 := blk_frozen BK224.out 2; obtain ⟨Ao21, co21, eo21⟩ := Kd.R_slice HO229.out; subst eo21) | ((with_reducible refine gate_callee (f := 12) rfl ?_); refine goesL_ (some 35) rfl rfl Try.func12 (by kernel_rfl) rfl #[.agg #[.int .i64 t220, .int .i64 t221, .int .i64 t222], .int .i64 3, .slice Ao21 t227.length co21] rfl (by (try simp only [List.map_toArray, List.map_cons, List.map_nil]); first | done | rfl | (simp only [List.length_drop, List.length_take]; rfl)) ?_; (with_reducible refine (limiter_Run.calls k t220 t221 t222 3 _ _ t227 t231 t232 t235 t236 t237 t238 _ ?side1 ?side2 A11.out).mono ?_); (case side1 => repeat (first | exact (Kd.R_reads' HO229.out).2.2 | (with_reducible refine Kd.C_alloc ?_ _) | (with_reducible refine Kd.C_drewN ?_ _) | (with_reducible refine Kd.C_drew ?_))); (case side2 => exact (Kd.R_reads' HO229.out).2.1); rintro e w22 ⟨v233, rfl, ho0, hb⟩; refine ⟨_, rfl, ?_⟩; have n0_ := Aside0.mk (Kd.R_below (by (with_reducible repeat (first | apply Kd.R_alloc | apply Kd.R_drewN | apply Kd.R_drew)); exact HO229.out) hb); have n1_ := Aside0.mk (Kd.R_lower ho0 (below_size (by repeat (first | (with_reducible first | exact HB.out | apply below_alloc | apply pw_below_drewN | apply below_drew1 | refine below_set ?_ (IsS56.ge HI219.out) | refine below_set ?_ GE224.out) | exact HB.out)))); have n2_ := Aside0.mk (IsS56.below (by repeat (first | (with_reducible first | exact HI219.out | apply IsS56.alloc | apply IsS56.drewN | apply IsS56.drew | apply IsS56.set_0 | refine IsS56.far ?_ NB219_224.out _) | exact HI219.out)) hb); have n3_ := Aside0.mk (blk_below (g := gb224) (o := .cells #[.int .i64 t220, .int .i64 t221, .int .i64 t222] 23 (0, 0)) (by (with_reducible repeat (first | refine blk_drewN ?_ _ | refine blk_drew ?_ | refine blk_alloc ?_ _)); exact BK224.out) hb); have n4_ := Aside0.mk (below_step (by repeat (first | (with_reducible first | exact HB.out | apply below_alloc | apply pw_below_drewN | apply below_drew1 | refine below_set ?_ (IsS56.ge HI219.out) | refine below_set ?_ GE224.out) | exact HB.out)) hb); clear HO229; clear HI219; clear BK224; clear HB; have HO229 := n0_; have HO234 := n1_; have HI219 := n2_; have BK224 := n3_; have HB := n4_; clear n0_ n1_ n2_ n3_ n4_; (try clear hb); (try clear hb2); (try clear hk); (try clear hi); (try clear ho0)) | ((with_reducible refine gate_dst (N := 8) rfl ?_); refine box_event ?hg (N := 8) ?hd (cs := #[.int .i64 0, .slice none 0 0]) (t := 36) ?hr ?_; (case hd => rfl); (case hg => rfl); (case hr => first | (go_simp; done) | (go_simp; rfl)); intro gb239 hg w23 hbox hb; have n0_ := Aside0.mk (Kd.R_below (by (with_reducible repeat (first | apply Kd.R_alloc | apply Kd.R_drewN | apply Kd.R_drew)); exact HO229.out) hb); have n1_ := Aside0.mk (Kd.R_below (by (with_reducible repeat (first | apply Kd.R_alloc | apply Kd.R_drewN | apply Kd.R_drew)); exact HO234.out) hb); have n2_ := Aside0.mk (IsS56.below (by repeat (first | (with_reducible first | exact HI219.out | apply IsS56.alloc | apply IsS56.drewN | apply IsS56.drew | apply IsS56.set_0 | refine IsS56.far ?_ NB219_224.out _) | exact HI219.out)) hb); have n3_ := Aside0.mk (blk_below (g := gb224) (o := .cells #[.int .i64 t220, .int .i64 t221, .int .i64 t222] 23 (0, 0)) (by (with_reducible repeat (first | refine blk_drewN ?_ _ | refine blk_drew ?_ | refine blk_alloc ?_ _)); exact BK224.out) hb); have n4_ := Aside0.mk (below_step (by repeat (first | (with_reducible first | exact HB.out | apply below_alloc | apply pw_below_drewN | apply below_drew1 | refine below_set ?_ (IsS56.ge HI219.out) | refine below_set ?_ GE224.out) | exact HB.out)) hb); have n5_ := Aside0.mk (hbox); have n6_ := Aside0.mk ((by rw [hg]; exact (below_size (by repeat (first | (with_reducible first | exact HB.out | apply below_alloc | apply pw_below_drewN | apply below_drew1 | refine below_set ?_ (IsS56.ge HI219.out) | refine below_set ?_ GE224.out) | exact HB.out))) : w.heap.size ≤ gb239)); have n7_ := Aside0.mk ((by rw [hg]; exact (below_size (by repeat (first | (with_reducible first | exact HB.out | apply below_alloc | apply pw_below_drewN | apply below_drew1 | refine below_set ?_ (IsS56.ge HI219.out) | refine below_set ?_ GE224.out) | exact HB.out))) : w.heap.size ≤ gb239)); have n8_ := Aside0.mk ((by rw [hg]; exact Nat.ne_of_lt (blk_lt (g := gb224) (o := .cells #[.int .i64 t220, .int .i64 t221, .int .i64 t222] 23 (0, 0)) (by (with_reducible repeat (first | refine blk_drewN ?_ _ | refine blk_drew ?_ | refine blk_alloc ?_ _)); exact BK224.out)) : gb224 ≠ gb239)); have n9_ := Aside0.mk ((by rw [hg]; exact Nat.ne_of_gt (blk_lt (g := gb224) (o := .cells #[.int .i64 t220, .int .i64 t221, .int .i64 t222] 23 (0, 0)) (by (with_reducible repeat (first | refine blk_drewN ?_ _ | refine blk_drew ?_ | refine blk_alloc ?_ _)); exact BK224.out)) : gb239 ≠ gb224)); have n10_ := Aside0.mk ((by rw [hg]; exact Nat.ne_of_lt (IsS56.lt (show IsS56 w _ g219 t230 from by repeat (first | (with_reducible first | exact HI219.out | apply IsS56.alloc | apply IsS56.drewN | apply IsS56.drew | apply IsS56.set_0 | refine IsS56.far ?_ NB219_224.out _) | exact HI219.out))) : g219 ≠ gb239)); have n11_ := Aside0.mk ((by rw [hg]; exact Nat.ne_of_gt (IsS56.lt (show IsS56 w _ g219 t230 from by repeat (first | (with_reducible first | exact HI219.out | apply IsS56.alloc | apply IsS56.drewN | apply IsS56.drew | apply IsS56.set_0 | refine IsS56.far ?_ NB219_224.out _) | exact HI219.out))) : gb239 ≠ g219)); clear HO229; clear HO234; clear HI219; clear BK224; clear HB; have HO229 := n0_; have HO234 := n1_; have HI219 := n2_; have BK224 := n3_; have HB := n4_; have BK239 := n5_; have GW239 := n6_; have GE239 := n7_; have NB224_239 := n8_; have NB239_224 := n9_; have NB219_239 := n10_; have NB239_219 := n11_; clear n0_ n1_ n2_ n3_ n4_ n5_ n6_ n7_ n8_ n9_ n10_ n11_; clear hb hbox hg) | ((with_reducible refine gate_dst (N := 9) rfl ?_); refine box_event ?hg (N := 9) ?hd (cs := #[.int .i64 0, .int .i64 0, .int .i64 0]) (t := 23) ?hr ?_; (case hd => rfl); (case hg => rfl); (case hr => first | (go_simp; done) | (go_simp; rfl)); intro gb240 hg w24 hbox hb; have n0_ := Aside0.mk (Kd.R_below (by (with_reducible repeat (first | apply Kd.R_alloc | apply Kd.R_drewN | apply Kd.R_drew)); exact HO229.out) hb); have n1_ := Aside0.mk (Kd.R_below (by (with_reducible repeat (first | apply Kd.R_alloc | apply Kd.R_drewN | apply Kd.R_drew)); exact HO234.out) hb); have n2_ := Aside0.mk (IsS56.below (by repeat (first | (with_reducible first | exact HI219.out | apply IsS56.alloc | apply IsS56.drewN | apply IsS56.drew | apply IsS56.set_0 | refine IsS56.far ?_ NB219_224.out _ | refine IsS56.far ?_ NB219_239.out _) | exact HI219.out)) hb); have n3_ := Aside0.mk (blk_below (g := gb224) (o := .cells #[.int .i64 t220, .int .i64 t221, .int .i64 t222] 23 (0, 0)) (by (with_reducible repeat (first | refine blk_drewN ?_ _ | refine blk_drew ?_ | refine blk_alloc ?_ _)); exact BK224.out) hb); have n4_ := Aside0.mk (blk_below (g := gb239) (o := .cells #[.int .i64 0, .slice none 0 0] 36 (0, 0)) (by (with_reducible repeat (first | refine blk_drewN ?_ _ | refine blk_drew ?_ | refine blk_alloc ?_ _)); exact BK239.out) hb); have n5_ := Aside0.mk (below_step (by repeat (first | (with_reducible first | exact HB.out | apply below_alloc | apply pw_below_drewN | apply below_drew1 | refine below_set ?_ (IsS56.ge HI219.out) | refine below_set ?_ GE224.out | refine below_set ?_ GE239.out) | exact HB.out)) hb); have n6_ := Aside0.mk (hbox); have n7_ := Aside0.mk ((by rw [hg]; exact (below_size (by repeat (first | (with_reducible first | exact HB.out | apply below_alloc | apply pw_below_drewN | apply below_drew1 | refine below_set ?_ (IsS56.ge HI219.out) | refine below_set ?_ GE224.out | refine below_set ?_ GE239.out) | exact HB.out))) : w.heap.size ≤ gb240)); have n8_ := Aside0.mk ((by rw [hg]; exact (below_size (by repeat (first | (with_reducible first | exact HB.out | apply below_alloc | apply pw_below_drewN | apply below_drew1 | refine below_set ?_ (IsS56.ge HI219.out) | refine below_set ?_ GE224.out | refine below_set ?_ GE239.out) | exact HB.out))) : w.heap.size ≤ gb240)); have n9_ := Aside0.mk ((by rw [hg]; exact Nat.ne_of_lt (blk_lt (g := gb224) (o := .cells #[.int .i64 t220, .int .i64 t221, .int .i64 t222] 23 (0, 0)) (by (with_reducible repeat (first | refine blk_drewN ?_ _ | refine blk_drew ?_ | refine blk_alloc ?_ _)); exact BK224.out)) : gb224 ≠ gb240)); have n10_ := Aside0.mk ((by rw [hg]; exact Nat.ne_of_gt (blk_lt (g := gb224) (o := .cells #[.int .i64 t220, .int .i64 t221, .int .i64 t222] 23 (0, 0)) (by (with_reducible repeat (first | refine blk_drewN ?_ _ | refine blk_drew ?_ | refine blk_alloc ?_ _)); exact BK224.out)) : gb240 ≠ gb224)); have n11_ := Aside0.mk ((by rw [hg]; exact Nat.ne_of_lt (blk_lt (g := gb239) (o := .cells #[.int .i64 0, .slice none 0 0] 36 (0, 0)) (by (with_reducible repeat (first | refine blk_drewN ?_ _ | refine blk_drew ?_ | refine blk_alloc ?_ _)); exact BK239.out)) : gb239 ≠ gb240)); have n12_ := Aside0.mk ((by rw [hg]; exact Nat.ne_of_gt (blk_lt (g := gb239) (o := .cells #[.int .i64 0, .slice none 0 0] 36 (0, 0)) (by (with_reducible repeat (first | refine blk_drewN ?_ _ | refine blk_drew ?_ | refine blk_alloc ?_ _)); exact BK239.out)) : gb240 ≠ gb239)); have n13_ := Aside0.mk ((by rw [hg]; exact Nat.ne_of_lt (IsS56.lt (show IsS56 w _ g219 t230 from by repeat (first | (with_reducible first | exact HI219.out | apply IsS56.alloc | apply IsS56.drewN | apply IsS56.drew | apply IsS56.set_0 | refine IsS56.far ?_ NB219_224.out _ | refine IsS56.far ?_ NB219_239.out _) | exact HI219.out))) : g219 ≠ gb240)); have n14_ := Aside0.mk ((by rw [hg]; exact Nat.ne_of_gt (IsS56.lt (show IsS56 w _ g219 t230 from by repeat (first | (with_reducible first | exact HI219.out | apply IsS56.alloc | apply IsS56.drewN | apply IsS56.drew | apply IsS56.set_0 | refine IsS56.far ?_ NB219_224.out _ | refine IsS56.far ?_ NB219_239.out _) | exact HI219.out))) : gb240 ≠ g219)); clear HO229; clear HO234; clear HI219; clear BK224; clear BK239; clear HB; have HO229 := n0_; have HO234 := n1_; have HI219 := n2_; have BK224 := n3_; have BK239 := n4_; have HB := n5_; have BK240 := n6_; have GW240 := n7_; have GE240 := n8_; have NB224_240 := n9_; have NB240_224 := n10_; have NB239_240 := n11_; have NB240_239 := n12_; have NB219_240 := n13_; have NB240_219 := n14_; clear n0_ n1_ n2_ n3_ n4_ n5_ n6_ n7_ n8_ n9_ n10_ n11_ n12_ n13_ n14_; clear hb hbox hg; have hnb25 := NB239_224.out; have hnc25 := NB224_239.out; have hnb26 := NB239_240.out; have hnc26 := NB240_239.out; have hnb27 := NB239_219.out; have hnc27 := NB219_239.out; have hcz28_0 : w24.cell? ⟨gb239, 0, none⟩ = some (.int .i64 0) := (blk_cell BK239.out 0).trans rfl; have hcz28_1 : w24.cell? ⟨gb239, 1, none⟩ = some (.slice none 0 0) := (blk_cell BK239.out 1).trans rfl; have hfz28_0 := blk_frozen BK239.out 0; have hfz28_1 := blk_frozen BK239.out 1; obtain ⟨Ao29, co29, eo29⟩ := Kd.R_slice HO234.out; subst eo29; have hnb30 := NB240_224.out; have hnc30 := NB224_240.out; have hnb31 := NB240_219.out; have hnc31 := NB219_240.out; have hcz32_0 : w24.cell? ⟨gb240, 0, none⟩ = some (.int .i64 0) := (blk_cell BK240.out 0).trans rfl; have hcz32_1 : w24.cell? ⟨gb240, 1, none⟩ = some (.int .i64 0) := (blk_cell BK240.out 1).trans rfl; have hcz32_2 : w24.cell? ⟨gb240, 2, none⟩ = some (.int .i64 0) := (blk_cell BK240.out 2).trans rfl; have hfz32_0 := blk_frozen BK240.out 0; have hfz32_1 := blk_frozen BK240.out 1; have hfz32_2 := blk_frozen BK240.out 2) | ((with_reducible refine gate_dst (N := 11) rfl ?_); refine box_event ?hg (N := 11) ?hd (cs := #[.int .i64 0, .slice none 0 0]) (t := 36) ?hr ?_; (case hd => rfl); (case hg => rfl); (case hr => first | (go_simp; done) | (go_simp; rfl)); intro gb241 hg w33 hbox hb; have n0_ := Aside0.mk (Kd.R_below (by (with_reducible repeat (first | apply Kd.R_alloc | apply Kd.R_drewN | apply Kd.R_drew)); exact (Kd.R_mono (Kd.R_mono (Kd.R_far (p := ⟨gb240, 2, none⟩) (Kd.R_far (p := ⟨gb240, 1, none⟩) (Kd.R_far (p := ⟨gb240, 0, none⟩) (Kd.R_far (p := ⟨gb239, 1, none⟩) (Kd.R_far (p := ⟨gb239, 0, none⟩) (Kd.R_types (Kd.R_types HO229.out BK239.out (by decide)) BK240.out (by decide)) (fun _ hk => hk.1.2) (.int .i64 t231)) (fun _ hk => hk.1.2) (.slice Ao29 t232.length co29)) (fun _ hk => hk.2) (.int .i64 t235)) (fun _ hk => hk.2) (.int .i64 t236)) (fun _ hk => hk.2) (.int .i64 t237)) (fun _ h_ => h_.1)) (fun _ h_ => h_.1))) hb); have n1_ := Aside0.mk (Kd.R_below (by (with_reducible repeat (first | apply Kd.R_alloc | apply Kd.R_drewN | apply Kd.R_drew)); exact (Kd.R_mono (Kd.R_mono (Kd.R_far (p := ⟨gb240, 2, none⟩) (Kd.R_far (p := ⟨gb240, 1, none⟩) (Kd.R_far (p := ⟨gb240, 0, none⟩) (Kd.R_far (p := ⟨gb239, 1, none⟩) (Kd.R_far (p := ⟨gb239, 0, none⟩) (Kd.R_types (Kd.R_types HO234.out BK239.out (by decide)) BK240.out (by decide)) (fun _ hk => hk.1.2) (.int .i64 t231)) (fun _ hk => hk.1.2) (.slice Ao29 t232.length co29)) (fun _ hk => hk.2) (.int .i64 t235)) (fun _ hk => hk.2) (.int .i64 t236)) (fun _ hk => hk.2) (.int .i64 t237)) (fun _ h_ => h_.1)) (fun _ h_ => h_.1))) hb); have n2_ := Aside0.mk (IsS56.below (show IsS56 w (((((w24.setCell ⟨gb239, 0, none⟩ (.int .i64 t231)).setCell ⟨gb239, 1, none⟩ (.slice Ao29 t232.length co29)).setCell ⟨gb240, 0, none⟩ (.int .i64 t235)).setCell ⟨gb240, 1, none⟩ (.int .i64 t236)).setCell ⟨gb240, 2, none⟩ (.int .i64 t237)) g219 t230 from by repeat (first | (with_reducible first | exact HI219.out | apply IsS56.alloc | apply IsS56.drewN | apply IsS56.drew | apply IsS56.set_0 | refine IsS56.far ?_ NB219_224.out _ | refine IsS56.far ?_ NB219_239.out _ | refine IsS56.far ?_ NB219_240.out _) | exact HI219.out)) hb); have n3_ := Aside0.mk (blk_below (g := gb224) (o := .cells #[.int .i64 t220, .int .i64 t221, .int .i64 t222] 23 (0, 0)) (by (with_reducible repeat (first | refine blk_drewN ?_ _ | refine blk_drew ?_ | refine blk_alloc ?_ _)); refine blk_far ?_ NB224_240.out _; (with_reducible repeat (first | refine blk_drewN ?_ _ | refine blk_drew ?_ | refine blk_alloc ?_ _)); refine blk_far ?_ NB224_240.out _; (with_reducible repeat (first | refine blk_drewN ?_ _ | refine blk_drew ?_ | refine blk_alloc ?_ _)); refine blk_far ?_ NB224_240.out _; (with_reducible repeat (first | refine blk_drewN ?_ _ | refine blk_drew ?_ | refine blk_alloc ?_ _)); refine blk_far ?_ NB224_239.out _; (with_reducible repeat (first | refine blk_drewN ?_ _ | refine blk_drew ?_ | refine blk_alloc ?_ _)); refine blk_far ?_ NB224_239.out _; (with_reducible repeat (first | refine blk_drewN ?_ _ | refine blk_drew ?_ | refine blk_alloc ?_ _)); exact BK224.out) hb); have n4_ := Aside0.mk (blk_below (g := gb239) (o := .cells #[.int .i64 t231, .slice Ao29 t232.length co29] 36 (0, 0)) (by (with_reducible repeat (first | refine blk_drewN ?_ _ | refine blk_drew ?_ | refine blk_alloc ?_ _)); refine blk_far ?_ NB239_240.out _; (with_reducible repeat (first | refine blk_drewN ?_ _ | refine blk_drew ?_ | refine blk_alloc ?_ _)); refine blk_far ?_ NB239_240.out _; (with_reducible repeat (first | refine blk_drewN ?_ _ | refine blk_drew ?_ | refine blk_alloc ?_ _)); refine blk_far ?_ NB239_240.out _; (with_reducible repeat (first | refine blk_drewN ?_ _ | refine blk_drew ?_ | refine blk_alloc ?_ _)); refine blk_put (cs := #[.int .i64 t231, .slice none 0 0]) ?_ 1 _ rfl; (with_reducible repeat (first | refine blk_drewN ?_ _ | refine blk_drew ?_ | refine blk_alloc ?_ _)); refine blk_put (cs := #[.int .i64 0, .slice none 0 0]) ?_ 0 _ rfl; (with_reducible repeat (first | refine blk_drewN ?_ _ | refine blk_drew ?_ | refine blk_alloc ?_ _)); exact BK239.out) hb); have n5_ := Aside0.mk (blk_below (g := gb240) (o := .cells #[.int .i64 t235, .int .i64 t236, .int .i64 t237] 23 (0, 0)) (by (with_reducible repeat (first | refine blk_drewN ?_ _ | refine blk_drew ?_ | refine blk_alloc ?_ _)); refine blk_put (cs := #[.int .i64 t235, .int .i64 t236, .int .i64 0]) ?_ 2 _ rfl; (with_reducible repeat (first | refine blk_drewN ?_ _ | refine blk_drew ?_ | refine blk_alloc ?_ _)); refine blk_put (cs := #[.int .i64 t235, .int .i64 0, .int .i64 0]) ?_ 1 _ rfl; (with_reducible repeat (first | refine blk_drewN ?_ _ | refine blk_drew ?_ | refine blk_alloc ?_ _)); refine blk_put (cs := #[.int .i64 0, .int .i64 0, .int .i64 0]) ?_ 0 _ rfl; (with_reducible repeat (first | refine blk_drewN ?_ _ | refine blk_drew ?_ | refine blk_alloc ?_ _)); refine blk_far ?_ NB240_239.out _; (with_reducible repeat (first | refine blk_drewN ?_ _ | refine blk_drew ?_ | refine blk_alloc ?_ _)); refine blk_far ?_ NB240_239.out _; (with_reducible repeat (first | refine blk_drewN ?_ _ | refine blk_drew ?_ | refine blk_alloc ?_ _)); exact BK240.out) hb); have n6_ := Aside0.mk (below_step (by repeat (first | (with_reducible first | exact HB.out | apply below_alloc | apply pw_below_drewN | apply below_drew1 | refine below_set ?_ (IsS56.ge HI219.out) | refine below_set ?_ GE224.out | refine below_set ?_ GE239.out | refine below_set ?_ GE240.out) | exact HB.out)) hb); have n7_ := Aside0.mk (hbox); have n8_ := Aside0.mk ((by rw [hg]; exact (below_size (by repeat (first | (with_reducible first | exact HB.out | apply below_alloc | apply pw_below_drewN | apply below_drew1 | refine below_set ?_ (IsS56.ge HI219.out) | refine below_set ?_ GE224.out | refine below_set ?_ GE239.out | refine below_set ?_ GE240.out) | exact HB.out))) : w.heap.size ≤ gb241)); have n9_ := Aside0.mk ((by rw [hg]; exact (below_size (by repeat (first | (with_reducible first | exact HB.out | apply below_alloc | apply pw_below_drewN | apply below_drew1 | refine below_set ?_ (IsS56.ge HI219.out) | refine below_set ?_ GE224.out | refine below_set ?_ GE239.out | refine below_set ?_ GE240.out) | exact HB.out))) : w.heap.size ≤ gb241)); have n10_ := Aside0.mk ((by rw [hg]; exact Nat.ne_of_lt (blk_lt (g := gb224) (o := .cells #[.int .i64 t220, .int .i64 t221, .int .i64 t222] 23 (0, 0)) (by (with_reducible repeat (first | refine blk_drewN ?_ _ | refine blk_drew ?_ | refine blk_alloc ?_ _)); refine blk_far ?_ NB224_240.out _; (with_reducible repeat (first | refine blk_drewN ?_ _ | refine blk_drew ?_ | refine blk_alloc ?_ _)); refine blk_far ?_ NB224_240.out _; (with_reducible repeat (first | refine blk_drewN ?_ _ | refine blk_drew ?_ | refine blk_alloc ?_ _)); refine blk_far ?_ NB224_240.out _; (with_reducible repeat (first | refine blk_drewN ?_ _ | refine blk_drew ?_ | refine blk_alloc ?_ _)); refine blk_far ?_ NB224_239.out _; (with_reducible repeat (first | refine blk_drewN ?_ _ | refine blk_drew ?_ | refine blk_alloc ?_ _)); refine blk_far ?_ NB224_239.out _; (with_reducible repeat (first | refine blk_drewN ?_ _ | refine blk_drew ?_ | refine blk_alloc ?_ _)); exact BK224.out)) : gb224 ≠ gb241)); have n11_ := Aside0.mk ((by rw [hg]; exact Nat.ne_of_gt (blk_lt (g := gb224) (o := .cells #[.int .i64 t220, .int .i64 t221, .int .i64 t222] 23 (0, 0)) (by (with_reducible repeat (first | refine blk_drewN ?_ _ | refine blk_drew ?_ | refine blk_alloc ?_ _)); refine blk_far ?_ NB224_240.out _; (with_reducible repeat (first | refine blk_drewN ?_ _ | refine blk_drew ?_ | refine blk_alloc ?_ _)); refine blk_far ?_ NB224_240.out _; (with_reducible repeat (first | refine blk_drewN ?_ _ | refine blk_drew ?_ | refine blk_alloc ?_ _)); refine blk_far ?_ NB224_240.out _; (with_reducible repeat (first | refine blk_drewN ?_ _ | refine blk_drew ?_ | refine blk_alloc ?_ _)); refine blk_far ?_ NB224_239.out _; (with_reducible repeat (first | refine blk_drewN ?_ _ | refine blk_drew ?_ | refine blk_alloc ?_ _)); refine blk_far ?_ NB224_239.out _; (with_reducible repeat (first | refine blk_drewN ?_ _ | refine blk_drew ?_ | refine blk_alloc ?_ _)); exact BK224.out)) : gb241 ≠ gb224)); have n12_ := Aside0.mk ((by rw [hg]; exact Nat.ne_of_lt (blk_lt (g := gb239) (o := .cells #[.int .i64 t231, .slice Ao29 t232.length co29] 36 (0, 0)) (by (with_reducible repeat (first | refine blk_drewN ?_ _ | refine blk_drew ?_ | refine blk_alloc ?_ _)); refine blk_far ?_ NB239_240.out _; (with_reducible repeat (first | refine blk_drewN ?_ _ | refine blk_drew ?_ | refine blk_alloc ?_ _)); refine blk_far ?_ NB239_240.out _; (with_reducible repeat (first | refine blk_drewN ?_ _ | refine blk_drew ?_ | refine blk_alloc ?_ _)); refine blk_far ?_ NB239_240.out _; (with_reducible repeat (first | refine blk_drewN ?_ _ | refine blk_drew ?_ | refine blk_alloc ?_ _)); refine blk_put (cs := #[.int .i64 t231, .slice none 0 0]) ?_ 1 _ rfl; (with_reducible repeat (first | refine blk_drewN ?_ _ | refine blk_drew ?_ | refine blk_alloc ?_ _)); refine blk_put (cs := #[.int .i64 0, .slice none 0 0]) ?_ 0 _ rfl; (with_reducible repeat (first | refine blk_drewN ?_ _ | refine blk_drew ?_ | refine blk_alloc ?_ _)); exact BK239.out)) : gb239 ≠ gb241)); have n13_ := Aside0.mk ((by rw [hg]; exact Nat.ne_of_gt (blk_lt (g := gb239) (o := .cells #[.int .i64 t231, .slice Ao29 t232.length co29] 36 (0, 0)) (by (with_reducible repeat (first | refine blk_drewN ?_ _ | refine blk_drew ?_ | refine blk_alloc ?_ _)); refine blk_far ?_ NB239_240.out _; (with_reducible repeat (first | refine blk_drewN ?_ _ | refine blk_drew ?_ | refine blk_alloc ?_ _)); refine blk_far ?_ NB239_240.out _; (with_reducible repeat (first | refine blk_drewN ?_ _ | refine blk_drew ?_ | refine blk_alloc ?_ _)); refine blk_far ?_ NB239_240.out _; (with_reducible repeat (first | refine blk_drewN ?_ _ | refine blk_drew ?_ | refine blk_alloc ?_ _)); refine blk_put (cs := #[.int .i64 t231, .slice none 0 0]) ?_ 1 _ rfl; (with_reducible repeat (first | refine blk_drewN ?_ _ | refine blk_drew ?_ | refine blk_alloc ?_ _)); refine blk_put (cs := #[.int .i64 0, .slice none 0 0]) ?_ 0 _ rfl; (with_reducible repeat (first | refine blk_drewN ?_ _ | refine blk_drew ?_ | refine blk_alloc ?_ _)); exact BK239.out)) : gb241 ≠ gb239)); have n14_ := Aside0.mk ((by rw [hg]; exact Nat.ne_of_lt (blk_lt (g := gb240) (o := .cells #[.int .i64 t235, .int .i64 t236, .int .i64 t237] 23 (0, 0)) (by (with_reducible repeat (first | refine blk_drewN ?_ _ | refine blk_drew ?_ | refine blk_alloc ?_ _)); refine blk_put (cs := #[.int .i64 t235, .int .i64 t236, .int .i64 0]) ?_ 2 _ rfl; (with_reducible repeat (first | refine blk_drewN ?_ _ | refine blk_drew ?_ | refine blk_alloc ?_ _)); refine blk_put (cs := #[.int .i64 t235, .int .i64 0, .int .i64 0]) ?_ 1 _ rfl; (with_reducible repeat (first | refine blk_drewN ?_ _ | refine blk_drew ?_ | refine blk_alloc ?_ _)); refine blk_put (cs := #[.int .i64 0, .int .i64 0, .int .i64 0]) ?_ 0 _ rfl; (with_reducible repeat (first | refine blk_drewN ?_ _ | refine blk_drew ?_ | refine blk_alloc ?_ _)); refine blk_far ?_ NB240_239.out _; (with_reducible repeat (first | refine blk_drewN ?_ _ | refine blk_drew ?_ | refine blk_alloc ?_ _)); refine blk_far ?_ NB240_239.out _; (with_reducible repeat (first | refine blk_drewN ?_ _ | refine blk_drew ?_ | refine blk_alloc ?_ _)); exact BK240.out)) : gb240 ≠ gb241)); have n15_ := Aside0.mk ((by rw [hg]; exact Nat.ne_of_gt (blk_lt (g := gb240) (o := .cells #[.int .i64 t235, .int .i64 t236, .int .i64 t237] 23 (0, 0)) (by (with_reducible repeat (first | refine blk_drewN ?_ _ | refine blk_drew ?_ | refine blk_alloc ?_ _)); refine blk_put (cs := #[.int .i64 t235, .int .i64 t236, .int .i64 0]) ?_ 2 _ rfl; (with_reducible repeat (first | refine blk_drewN ?_ _ | refine blk_drew ?_ | refine blk_alloc ?_ _)); refine blk_put (cs := #[.int .i64 t235, .int .i64 0, .int .i64 0]) ?_ 1 _ rfl; (with_reducible repeat (first | refine blk_drewN ?_ _ | refine blk_drew ?_ | refine blk_alloc ?_ _)); refine blk_put (cs := #[.int .i64 0, .int .i64 0, .int .i64 0]) ?_ 0 _ rfl; (with_reducible repeat (first | refine blk_drewN ?_ _ | refine blk_drew ?_ | refine blk_alloc ?_ _)); refine blk_far ?_ NB240_239.out _; (with_reducible repeat (first | refine blk_drewN ?_ _ | refine blk_drew ?_ | refine blk_alloc ?_ _)); refine blk_far ?_ NB240_239.out _; (with_reducible repeat (first | refine blk_drewN ?_ _ | refine blk_drew ?_ | refine blk_alloc ?_ _)); exact BK240.out)) : gb241 ≠ gb240)); have n16_ := Aside0.mk ((by rw [hg]; exact Nat.ne_of_lt (IsS56.lt (show IsS56 w _ g219 t230 from by repeat (first | (with_reducible first | exact HI219.out | apply IsS56.alloc | apply IsS56.drewN | apply IsS56.drew | apply IsS56.set_0 | refine IsS56.far ?_ NB219_224.out _ | refine IsS56.far ?_ NB219_239.out _ | refine IsS56.far ?_ NB219_240.out _) | exact HI219.out))) : g219 ≠ gb241)); have n17_ := Aside0.mk ((by rw [hg]; exact Nat.ne_of_gt (IsS56.lt (show IsS56 w _ g219 t230 from by repeat (first | (with_reducible first | exact HI219.out | apply IsS56.alloc | apply IsS56.drewN | apply IsS56.drew | apply IsS56.set_0 | refine IsS56.far ?_ NB219_224.out _ | refine IsS56.far ?_ NB219_239.out _ | refine IsS56.far ?_ NB219_240.out _) | exact HI219.out))) : gb241 ≠ g219)); clear HO229; clear HO234; clear HI219; clear BK224; clear BK239; clear BK240; clear HB; have HO229 := n0_; have HO234 := n1_; have HI219 := n2_; have BK224 := n3_; have BK239 := n4_; have BK240 := n5_; have HB := n6_; have BK241 := n7_; have GW241 := n8_; have GE241 := n9_; have NB224_241 := n10_; have NB241_224 := n11_; have NB239_241 := n12_; have NB241_239 := n13_; have NB240_241 := n14_; have NB241_240 := n15_; have NB219_241 := n16_; have NB241_219 := n17_; clear n0_ n1_ n2_ n3_ n4_ n5_ n6_ n7_ n8_ n9_ n10_ n11_ n12_ n13_ n14_ n15_ n16_ n17_; clear hb hbox hg; have hnb34 := NB241_224.out; have hnc34 := NB224_241.out; have hnb35 := NB241_239.out; have hnc35 := NB239_241.out; have hnb36 := NB241_240.out; have hnc36 := NB240_241.out; have hnb37 := NB241_219.out; have hnc37 := NB219_241.out; have hcz38_0 : w33.cell? ⟨gb241, 0, none⟩ = some (.int .i64 0) := (blk_cell BK241.out 0).trans rfl; have hcz38_1 : w33.cell? ⟨gb241, 1, none⟩ = some (.slice none 0 0) := (blk_cell BK241.out 1).trans rfl; have hfz38_0 := blk_frozen BK241.out 0; have hfz38_1 := blk_frozen BK241.out 1))
      go_loopg [12, 13] k (fun kq v12 v13 w' => ∃ (x12_1 : Int) (x13_1 : Int) (x225000_1 : Int) (x225001_1 : Int) (x225002_1 : Int) (x242000_1 : Int) (x242001_1 : List Int) (u242001 : Value), v12 = .int .i64 x12_1 ∧ v13 = .int .i64 x13_1 ∧ Aside0 (soundservicelaw08_LimiterPieces.l0 kq l1 t227 t238 x12_1 x13_1 x225000_1 x225001_1 x225002_1 t231 t232 t235 t236 t237 x242000_1 x242001_1 = some r) ∧ Aside0 (kq ≤ k) ∧ Aside0 (Kd.R (Kd.int .i64) 2 w' w.heap.size (fun _ => True) (.slice Ao21 t227.length co21) t227) ∧ Aside0 (Kd.R (Kd.int .i32) 21 w' w.heap.size (fun k_ => some k_ ≠ (u242001 : Value).ownBlock) (.slice Ao29 t232.length co29) t232) ∧ Aside0 (Kd.R (Kd.int .i32) 21 w' w.heap.size (fun k_ => some k_ ≠ ((.slice Ao29 t232.length co29) : Value).ownBlock) u242001 x242001_1) ∧ Aside0 (w'.heap[gb224]? = some (.cells #[.int .i64 x225000_1, .int .i64 x225001_1, .int .i64 x225002_1] 23 (0, 0))) ∧ Aside0 (w'.heap[gb239]? = some (.cells #[.int .i64 t231, (.slice Ao29 t232.length co29)] 36 (0, 0))) ∧ Aside0 (w'.heap[gb240]? = some (.cells #[.int .i64 t235, .int .i64 t236, .int .i64 t237] 23 (0, 0))) ∧ Aside0 (w'.heap[gb241]? = some (.cells #[.int .i64 x242000_1, u242001] 36 (0, 0))) ∧ Aside0 (Below w.heap.size w w'))
      case atStart => exact ⟨(0), (0), (t220), (t221), (t222), (3), (([] : List Int)), (.slice none 0 0), (by first | rfl | (simp; done) | (simp [*]; done)), (by first | rfl | (simp; done) | (simp [*]; done)), H', ⟨Nat.le_refl _⟩, ⟨by (with_reducible repeat (first | apply Kd.R_alloc | apply Kd.R_drewN | apply Kd.R_drew)); exact Kd.R_mono (Kd.R_far (p := ⟨gb241, 1, none⟩) (Kd.R_far (p := ⟨gb241, 0, none⟩) (Kd.R_types HO229.out BK241.out (by decide)) (fun _ hk => hk.2) (.int .i64 3)) (fun _ hk => hk.2) (.slice none 0 0)) (fun _ hk => trivial)⟩, ⟨by (with_reducible repeat (first | apply Kd.R_alloc | apply Kd.R_drewN | apply Kd.R_drew)); exact Kd.R_mono (Kd.R_far (p := ⟨gb241, 1, none⟩) (Kd.R_far (p := ⟨gb241, 0, none⟩) (Kd.R_types HO234.out BK241.out (by decide)) (fun _ hk => hk.2) (.int .i64 3)) (fun _ hk => hk.2) (.slice none 0 0)) (fun _ hk => (by simp [Value.ownBlock]))⟩, ⟨by first | exact Kd.R_nil _ _ _ _ _ | exact Kd.N_nil _ _ _ _ _ | exact Kd.V_nil _ _ _ _ _ | exact Kd.Q_nil _ _ _ _ _ | exact Kd.S_nil _ _ _ _ _⟩, ⟨by (with_reducible repeat (first | refine blk_drewN ?_ _ | refine blk_drew ?_ | refine blk_alloc ?_ _)); refine blk_far ?_ NB224_241.out _; (with_reducible repeat (first | refine blk_drewN ?_ _ | refine blk_drew ?_ | refine blk_alloc ?_ _)); refine blk_far ?_ NB224_241.out _; (with_reducible repeat (first | refine blk_drewN ?_ _ | refine blk_drew ?_ | refine blk_alloc ?_ _)); exact BK224.out⟩, ⟨by (with_reducible repeat (first | refine blk_drewN ?_ _ | refine blk_drew ?_ | refine blk_alloc ?_ _)); refine blk_far ?_ NB239_241.out _; (with_reducible repeat (first | refine blk_drewN ?_ _ | refine blk_drew ?_ | refine blk_alloc ?_ _)); refine blk_far ?_ NB239_241.out _; (with_reducible repeat (first | refine blk_drewN ?_ _ | refine blk_drew ?_ | refine blk_alloc ?_ _)); exact BK239.out⟩, ⟨by (with_reducible repeat (first | refine blk_drewN ?_ _ | refine blk_drew ?_ | refine blk_alloc ?_ _)); refine blk_far ?_ NB240_241.out _; (with_reducible repeat (first | refine blk_drewN ?_ _ | refine blk_drew ?_ | refine blk_alloc ?_ _)); refine blk_far ?_ NB240_241.out _; (with_reducible repeat (first | refine blk_drewN ?_ _ | refine blk_drew ?_ | refine blk_alloc ?_ _)); exact BK240.out⟩, ⟨by (with_reducible repeat (first | refine blk_drewN ?_ _ | refine blk_drew ?_ | refine blk_alloc ?_ _)); refine blk_put (cs := #[.int .i64 3, .slice none 0 0]) ?_ 1 _ rfl; (with_reducible repeat (first | refine blk_drewN ?_ _ | refine blk_drew ?_ | refine blk_alloc ?_ _)); refine blk_put (cs := #[.int .i64 0, .slice none 0 0]) ?_ 0 _ rfl; (with_reducible repeat (first | refine blk_drewN ?_ _ | refine blk_drew ?_ | refine blk_alloc ?_ _)); exact BK241.out⟩, ⟨by repeat (first | (with_reducible first | exact HB.out | apply below_alloc | apply pw_below_drewN | apply below_drew1 | refine below_set ?_ (IsS56.ge HI219.out) | refine below_set ?_ GE224.out | refine below_set ?_ GE239.out | refine below_set ?_ GE240.out | refine below_set ?_ GE241.out) | exact HB.out)⟩⟩
      case round =>
        clear H'
        try clear c1
        try clear c2
        try clear p2
        try clear c3
        try clear c4
        try clear c5
        try clear c5b0
        try clear c5b1
        try clear p6
        try clear c8
        try clear c9
        try clear c10
        try clear c11
        try clear c12
        try clear c16
        try clear c21
        try clear c25
        try clear c26
        try clear c27
        try clear c30
        try clear c31
        try clear c34
        try clear c35
        try clear c36
        try clear c37
        try clear hcz17_0
        try clear hcz17_1
        try clear hcz17_2
        try clear hcz20_0
        try clear hcz20_1
        try clear hcz20_2
        try clear hcz28_0
        try clear hcz28_1
        try clear hcz32_0
        try clear hcz32_1
        try clear hcz32_2
        try clear hcz38_0
        try clear hcz38_1
        try clear hfz17_0
        try clear hfz17_1
        try clear hfz17_2
        try clear hfz20_0
        try clear hfz20_1
        try clear hfz20_2
        try clear hfz28_0
        try clear hfz28_1
        try clear hfz32_0
        try clear hfz32_1
        try clear hfz32_2
        try clear hfz38_0
        try clear hfz38_1
        obtain ⟨x12_1, x13_1, x225000_1, x225001_1, x225002_1, x242000_1, x242001_1, u242001, rfl, rfl, HA, HK1, HO_7, HO_240001, HO_242001, BK224, BK239, BK240, BK241, HB⟩ := hrel
        cases gk with
        | zero => exact absurd HA.out (by simp [soundservicelaw08_LimiterPieces.l0])
        | succ k1 =>
          have H := HA.out
          clear HA
          simp only [soundservicelaw08_LimiterPieces.l0] at H
          by_cases c39 : x13_1 ≤ (l1.length : Int)
          · rw [if_pos c39] at H
            have c39b0 : decide (x13_1 ≤ (l1.length : Int)) = true := decide_eq_true c39
            clear c39
            have HC40 := Aside0.mk H
            clear H
            go_upto_if 51 with (fail)
            go_cut [14] (fun v14 wc => ∃ (kq : Nat) (x14_39 : Int), v14 = .int .i64 x14_39 ∧ Aside0 (soundservicelaw08_LimiterPieces.j1 kq l1 t227 t238 x12_1 x13_1 x14_39 x225000_1 x225001_1 x225002_1 t231 t232 t235 t236 t237 x242000_1 x242001_1 = some r) ∧ Aside0 (kq ≤ k1) ∧ Aside0 (Kd.R (Kd.int .i64) 2 wc w.heap.size (fun _ => True) (.slice Ao21 t227.length co21) t227) ∧ Aside0 (Kd.R (Kd.int .i32) 21 wc w.heap.size (fun k_ => some k_ ≠ (u242001 : Value).ownBlock) (.slice Ao29 t232.length co29) t232) ∧ Aside0 (Kd.R (Kd.int .i32) 21 wc w.heap.size (fun k_ => some k_ ≠ ((.slice Ao29 t232.length co29) : Value).ownBlock) u242001 x242001_1) ∧ Aside0 (wc.heap[gb224]? = some (.cells #[.int .i64 x225000_1, .int .i64 x225001_1, .int .i64 x225002_1] 23 (0, 0))) ∧ Aside0 (wc.heap[gb239]? = some (.cells #[.int .i64 t231, (.slice Ao29 t232.length co29)] 36 (0, 0))) ∧ Aside0 (wc.heap[gb240]? = some (.cells #[.int .i64 t235, .int .i64 t236, .int .i64 t237] 23 (0, 0))) ∧ Aside0 (wc.heap[gb241]? = some (.cells #[.int .i64 x242000_1, u242001] 36 (0, 0))) ∧ Aside0 (Below w.heap.size w wc))
            case first =>
              have H := HC40.out
              clear HC40
              by_cases c41 : x13_1 < (l1.length : Int)
              · rw [if_pos c41] at H
                have c41b0 : decide (x13_1 < (l1.length : Int)) = true := decide_eq_true c41
                clear c41
                (first | rw [c41b0] | (simp only [i64_w, i32_w]; rw [c41b0]) | skip)
                by_cases c42 : 0 ≤ x13_1
                · rw [if_pos c42] at H
                  have c42b0 : decide (0 ≤ x13_1) = true := decide_eq_true c42
                  clear c42
                  obtain ⟨ji43, hji43⟩ : ∃ j_ : Int, (mn (t227.length : Int) (wrap64 (x12_1 + (wrap64 (3 * (wrap64 (Int.tmod (rd l1 x13_1) 5))))))) = j_ := ⟨_, rfl⟩
                  replace H : (soundservicelaw08_LimiterPieces.j1 k1 l1 t227 t238 x12_1 x13_1 ji43 x225000_1 x225001_1 x225002_1 t231 t232 t235 t236 t237 x242000_1 x242001_1) = some r := by first | (rw [hji43] at H; exact H) | (simp only [hji43] at H ⊢; exact H)
                  have hji43_ : (if (wrap64 (x12_1 + (wrap64 (3 * (wrap64 (Int.tmod (rd l1 x13_1) 5)))))) < (t227.length : Int) then (wrap64 (x12_1 + (wrap64 (3 * (wrap64 (Int.tmod (rd l1 x13_1) 5)))))) else (t227.length : Int)) = ji43 := hji43
                  have H' := Aside0.mk H
                  clear H
                  have p243 : 0 ≤ (x13_1 : Int) := of_decide_eq_true (by first | (with_reducible assumption) | assumption)
                  have q243 : x13_1 < (l1.length : Int) := of_decide_eq_true (by first | (with_reducible assumption) | assumption)
                  obtain ⟨ad243, e243, hx243_0⟩ := Kd.at_int HR1.out x13_1 p243 q243
                  cases e243
                  (try (replace hx243_0 := (HB.out.cell (World.block_lt_of_cell? w _ hx243_0)).trans hx243_0))
                  replace p243 := eq_true p243
                  replace q243 := eq_true q243
                  go_wp2
                  go_meet
                  case rel => exact ⟨_, (ji43), (by first | rfl | (simp; done) | (simp only [← hji43] <;> (first | rfl | simp)) | (simp [*]; done)), H', ⟨by have := HK1.out; first | omega | exact Nat.le_refl _⟩, ⟨by (with_reducible repeat (first | apply Kd.R_alloc | apply Kd.R_drewN | apply Kd.R_drew)); exact HO_7.out⟩, ⟨by (with_reducible repeat (first | apply Kd.R_alloc | apply Kd.R_drewN | apply Kd.R_drew)); exact HO_240001.out⟩, ⟨by (with_reducible repeat (first | apply Kd.R_alloc | apply Kd.R_drewN | apply Kd.R_drew)); exact HO_242001.out⟩, ⟨by (with_reducible repeat (first | refine blk_drewN ?_ _ | refine blk_drew ?_ | refine blk_alloc ?_ _)); exact BK224.out⟩, ⟨by (with_reducible repeat (first | refine blk_drewN ?_ _ | refine blk_drew ?_ | refine blk_alloc ?_ _)); exact BK239.out⟩, ⟨by (with_reducible repeat (first | refine blk_drewN ?_ _ | refine blk_drew ?_ | refine blk_alloc ?_ _)); exact BK240.out⟩, ⟨by (with_reducible repeat (first | refine blk_drewN ?_ _ | refine blk_drew ?_ | refine blk_alloc ?_ _)); exact BK241.out⟩, ⟨by repeat (first | (with_reducible first | exact HB.out | apply below_alloc | apply pw_below_drewN | apply below_drew1 | refine below_set ?_ GE224.out | refine below_set ?_ GE239.out | refine below_set ?_ GE240.out | refine below_set ?_ GE241.out) | exact HB.out)⟩⟩
                · rw [if_neg c42] at H
                  exact absurd H (by simp)
              · rw [if_neg c41] at H
                have c41b0 : decide (x13_1 < (l1.length : Int)) = false := decide_eq_false c41
                clear c41
                (first | rw [c41b0] | (simp only [i64_w, i32_w]; rw [c41b0]) | skip)
                have H' := Aside0.mk H
                clear H
                go_wp2
                go_meet
                case rel => exact ⟨_, ((t227.length : Int)), (by first | rfl | (simp; done) | (simp [*]; done)), H', ⟨by have := HK1.out; first | omega | exact Nat.le_refl _⟩, ⟨by (with_reducible repeat (first | apply Kd.R_alloc | apply Kd.R_drewN | apply Kd.R_drew)); exact HO_7.out⟩, ⟨by (with_reducible repeat (first | apply Kd.R_alloc | apply Kd.R_drewN | apply Kd.R_drew)); exact HO_240001.out⟩, ⟨by (with_reducible repeat (first | apply Kd.R_alloc | apply Kd.R_drewN | apply Kd.R_drew)); exact HO_242001.out⟩, ⟨by (with_reducible repeat (first | refine blk_drewN ?_ _ | refine blk_drew ?_ | refine blk_alloc ?_ _)); exact BK224.out⟩, ⟨by (with_reducible repeat (first | refine blk_drewN ?_ _ | refine blk_drew ?_ | refine blk_alloc ?_ _)); exact BK239.out⟩, ⟨by (with_reducible repeat (first | refine blk_drewN ?_ _ | refine blk_drew ?_ | refine blk_alloc ?_ _)); exact BK240.out⟩, ⟨by (with_reducible repeat (first | refine blk_drewN ?_ _ | refine blk_drew ?_ | refine blk_alloc ?_ _)); exact BK241.out⟩, ⟨by repeat (first | (with_reducible first | exact HB.out | apply below_alloc | apply pw_below_drewN | apply below_drew1 | refine below_set ?_ GE224.out | refine below_set ?_ GE239.out | refine below_set ?_ GE240.out | refine below_set ?_ GE241.out) | exact HB.out)⟩⟩
            case rest =>
              clear HC40
              try clear c1
              try clear c2
              try clear p2
              try clear q2
              try clear hx2
              try clear c3
              try clear c4
              try clear c5
              try clear c5b0
              try clear c5b1
              try clear p6
              try clear c8
              try clear c9
              try clear c10
              try clear c11
              try clear c12
              try clear c16
              try clear c21
              try clear p24
              try clear q24
              try clear hx24
              try clear c25
              try clear c26
              try clear c27
              try clear c30
              try clear c31
              try clear c34
              try clear c35
              try clear c36
              try clear c37
              try clear c39
              try clear c39b0
              try clear c41
              try clear c41b0
              try clear c42
              try clear c42b0
              try clear hcz17_0
              try clear hcz17_1
              try clear hcz17_2
              try clear hcz20_0
              try clear hcz20_1
              try clear hcz20_2
              try clear hcz28_0
              try clear hcz28_1
              try clear hcz32_0
              try clear hcz32_1
              try clear hcz32_2
              try clear hcz38_0
              try clear hcz38_1
              try clear hfz17_0
              try clear hfz17_1
              try clear hfz17_2
              try clear hfz20_0
              try clear hfz20_1
              try clear hfz20_2
              try clear hfz28_0
              try clear hfz28_1
              try clear hfz32_0
              try clear hfz32_1
              try clear hfz32_2
              try clear hfz38_0
              try clear hfz38_1
              try clear hx243_0
              try clear p2
              try clear p243
              try clear p6
              try clear q243
              obtain ⟨kq, x14_39, rfl, HA, HJ39, HO_7, HO_240001, HO_242001, BK224, BK239, BK240, BK241, HB⟩ := hcut
              cases kq with
              | zero => exact absurd HA.out (by simp [soundservicelaw08_LimiterPieces.j1])
              | succ kj39 =>
                have H := HA.out
                clear HA
                simp only [soundservicelaw08_LimiterPieces.j1] at H
                by_cases c44 : 0 ≤ x12_1
                · rw [if_pos c44] at H
                  have c44b0 := eq_true c44
                  have c44b1 : decide (0 ≤ x12_1) = true := decide_eq_true c44
                  clear c44
                  by_cases c45 : x12_1 ≤ x14_39
                  · rw [if_pos c45] at H
                    have c45b0 := eq_true c45
                    have c45b1 : decide (x12_1 ≤ x14_39) = true := decide_eq_true c45
                    clear c45
                    by_cases c46 : x14_39 ≤ (t227.length : Int)
                    · rw [if_pos c46] at H
                      have c46b0 := eq_true c46
                      have c46b1 : decide (x14_39 ≤ (t227.length : Int)) = true := decide_eq_true c46
                      clear c46
                      obtain ⟨y244, hy244⟩ : ∃ y_ : List Int, y_ = ((t227.take (x14_39 : Int).toNat).drop (x12_1 : Int).toNat) := ⟨_, rfl⟩
                      replace H : ((limiter_Run.f kj39 x225000_1 x225001_1 x225002_1 3 y244).bind fun bt248 => (if bt248.2.2.2.2.2 = 0 then ((soundserviceref04_Join.f x242000_1 x242001_1 bt248.1 bt248.2.1).bind fun bt258 => (soundservicelaw08_LimiterPieces.l0 kj39 l1 t227 t238 x14_39 (wrap64 (x13_1 + 1)) bt248.2.2.1 bt248.2.2.2.1 bt248.2.2.2.2.1 t231 t232 t235 t236 t237 bt258.1 bt258.2)) else (some false))) = some r := by first | (rw [hy244]; with_reducible exact H) | (have H2_ := (Option.bind_some _ _).symm.trans H; rw [hy244]; with_reducible exact H2_) | (have H2_ := (Option.bind_some _ _).symm.trans H; with_reducible exact H2_) | with_reducible exact H | (rw [hy244]; exact H) | exact H
                      have Ny244 := Aside0.mk hy244
                      clear hy244
                      replace H := Option.bind_eq_some_iff.mp H
                      obtain ⟨⟨t248, t249, t252, t253, t254, t255⟩, A470, H⟩ := H
                      replace H : (if t255 = 0 then ((soundserviceref04_Join.f x242000_1 x242001_1 t248 t249).bind fun bt258 => (soundservicelaw08_LimiterPieces.l0 kj39 l1 t227 t238 x14_39 (wrap64 (x13_1 + 1)) t252 t253 t254 t231 t232 t235 t236 t237 bt258.1 bt258.2)) else (some false)) = some r := H
                      have A47 := Aside0.mk A470
                      clear A470
                      by_cases c48 : t255 = 0
                      · rw [if_pos c48] at H
                        have c48b0 : (t255 == 0) = true := beq_iff_eq.mpr c48
                        have c48b1 : (t255 != 0) = false := bne_eq_false_iff_eq.mpr c48
                        clear c48
                        replace H := Option.bind_eq_some_iff.mp H
                        obtain ⟨⟨t258, t259⟩, A490, H⟩ := H
                        replace H : (soundservicelaw08_LimiterPieces.l0 kj39 l1 t227 t238 x14_39 (wrap64 (x13_1 + 1)) t252 t253 t254 t231 t232 t235 t236 t237 t258 t259) = some r := H
                        have A49 := Aside0.mk A490
                        clear A490
                        have H' := Aside0.mk H
                        clear H
                        try go_wp2
                        have n0_ := Aside0.mk (Kd.R_drew HO_7.out)
                        have n1_ := Aside0.mk (Kd.R_drew HO_240001.out)
                        have n2_ := Aside0.mk (Kd.R_drew HO_242001.out)
                        have n3_ := Aside0.mk (blk_drew BK224.out)
                        have n4_ := Aside0.mk (blk_drew BK239.out)
                        have n5_ := Aside0.mk (blk_drew BK240.out)
                        have n6_ := Aside0.mk (blk_drew BK241.out)
                        have n7_ := Aside0.mk (below_drew1 HB.out)
                        clear HO_7
                        clear HO_240001
                        clear HO_242001
                        clear BK224
                        clear BK239
                        clear BK240
                        clear BK241
                        clear HB
                        have HO_7 := n0_
                        have HO_240001 := n1_
                        have HO_242001 := n2_
                        have BK224 := n3_
                        have BK239 := n4_
                        have BK240 := n5_
                        have BK241 := n6_
                        have HB := n7_
                        clear n0_ n1_ n2_ n3_ n4_ n5_ n6_ n7_
                        have q51 : (x14_39 : Int) ≤ ((t227.length : Int) : Int) := of_decide_eq_true (by first | (with_reducible assumption) | assumption)
                        obtain ⟨i051, hi051, _, hsz51, _⟩ := info_parts info2
                        have hroom51 : t227.length ≤ co21 := (Kd.R_reads' HO_7.out).2.1
                        have hC51 : Kd.C (Kd.int .i64) _ Ao21 t227.length t227 := (Kd.R_reads' HO_7.out).2.2
                        have ql51 : (x12_1 : Int) ≤ (x14_39 : Int) := of_decide_eq_true (by first | (with_reducible assumption) | assumption)
                        have q051 : (0 : Int) ≤ (x12_1 : Int) := of_decide_eq_true (by first | (with_reducible assumption) | assumption)
                        have hcut51 := cut_mid (P := Try.prog) 24 2 .i64 .i64 Try.underlying24 hi051 1 hsz51 Ao21 t227.length co21 x12_1 x14_39 q051 ql51 q51 hroom51
                        have hr51 := Kd.C_mid (lo := (x12_1 : Int).toNat) (hi := (x14_39 : Int).toNat) (c := co21) hC51 (by omega) (by omega) hroom51
                        obtain ⟨A51, hA51⟩ : ∃ A1, A1 = (if co21 = (x12_1 : Int).toNat then Ao21 else (Ao21 : Option Addr).map (·.add ((x12_1 : Int).toNat * 1))) := ⟨_, rfl⟩
                        obtain ⟨c51, hc51⟩ : ∃ c1, c1 = co21 - (x12_1 : Int).toNat := ⟨_, rfl⟩
                        have hy51 : y244.length = (x14_39 : Int).toNat - (x12_1 : Int).toNat := (by rw [Ny244.out, List.length_drop, List.length_take] <;> omega)
                        rw [show ((t227).take (x14_39 : Int).toNat).drop (x12_1 : Int).toNat = y244 from Ny244.out.symm] at hr51
                        replace hr51 : Kd.C (Kd.int .i64) _ A51 y244.length y244 := (by rw [hA51]; exact hr51)
                        rw [← hy51, ← hA51, ← hc51] at hcut51
                        have HR247 := Aside0.mk hr51
                        have HC247 := Aside0.mk (show y244.length ≤ c51 from by rw [hy51, hc51]; first | exact Nat.le_refl _ | exact Nat.sub_le_sub_right (Nat.le_trans (by omega) hroom51) _)
                        clear hr51 hC51 hroom51 hi051 hsz51 hc51
                        have KY51 := Aside0.mk hy51
                        have KA51 := Aside0.mk hA51
                        clear hy51 hA51
                        have KL51 := Aside0.mk (show (x14_39 : Int).toNat ≤ t227.length from by omega)
                        have KM51 := Aside0.mk (show (x12_1 : Int).toNat ≤ (x14_39 : Int).toNat from by omega)
                        replace q51 := eq_true q51
                        refine start_ (n := 15) (S := fun w' => True) (ds := []) #[false, false, false, false, false, false, false, false, false, false, false, false, false, false, false] (by kernel_rfl) rfl rfl trivial (fun hHeld => ?_); refine with_tabW soundservicelaw08_LimiterPieces.tab17 soundservicelaw08_LimiterPieces.bits17 (fun HT_ HW_ => ?_)
                        generalize wc.drew = w50 at HO_7 HO_240001 HO_242001 BK224 BK239 BK240 BK241 HB HR247 hHeld ⊢
                        refine pure_ (i := 1) (N := some 66) (v := ?_) (a' := ?_) #[false, true, false, false, false, false, false, false, false, false, false, false, false, false, false] rfl rfl (any_of HT_.out (by kernel_rfl)) (fun _ _ _ h => h) (Or.inl ⟨by rfl, ?_⟩) ?_ ?_
                        rotate_left
                        · intro w'
                          go_simp
                          with_reducible rfl
                        rotate_left
                        · simp only [Act.put, List.setIfInBounds_toArray, List.set_cons_zero, List.set_cons_succ, i64_w, i32_w]
                          rfl
                        refine pure_ (i := 2) (N := some 67) (v := ?_) (a' := ?_) #[false, true, true, false, false, false, false, false, false, false, false, false, false, false, false] rfl rfl (any_of HT_.out (by kernel_rfl)) (fun _ _ _ h => h) (Or.inl ⟨by rfl, ?_⟩) ?_ ?_
                        rotate_left
                        · intro w'
                          go_simp
                          with_reducible rfl
                        rotate_left
                        · simp only [Act.put, List.setIfInBounds_toArray, List.set_cons_zero, List.set_cons_succ, i64_w, i32_w]
                          rfl
                        refine pure_ (i := 3) (N := some 68) (v := ?_) (a' := ?_) #[false, true, true, true, false, false, false, false, false, false, false, false, false, false, false] rfl rfl (any_of HT_.out (by kernel_rfl)) (fun _ _ _ h => h) (Or.inl ⟨by rfl, ?_⟩) ?_ ?_
                        rotate_left
                        · intro w'
                          go_simp
                          with_reducible rfl
                        rotate_left
                        · simp only [Act.put, List.setIfInBounds_toArray, List.set_cons_zero, List.set_cons_succ, i64_w, i32_w]
                          rfl
                        refine inv_at [0, 4, 5, 6, 7, 8, 9, 10, 11, 12, 13, 14] (fun a0_ b a w' => ∃ (v250 : Value) (gb256 : Nat) (gb257 : Nat) (m5_ : Value) (m6_ : Value) (m7_ : Value) (m10_ : Value) (m11_ : Value), a = putSel a0_ b [(0, 65, .agg #[.int .i64 x225000_1, .int .i64 x225001_1, .int .i64 x225002_1]), (4, 69, .slice A51 y244.length c51), (5, 70, m5_), (6, 64, m6_), (7, 71, m7_), (8, 72, .agg #[.int .i64 t252, .int .i64 t253, .int .i64 t254]), (9, 73, .int .i64 t255), (10, 15, m10_), (11, 16, m11_), (14, 17, .int .i64 t255)] ∧ (b 5 = false → Kd.R (Kd.int .i32) 21 w' w.heap.size (fun k_ => some k_ ≠ (u242001 : Value).ownBlock) (.slice Ao29 t232.length co29) t232) ∧ (b 5 = false → Kd.R (Kd.int .i32) 21 w' w.heap.size (fun k_ => some k_ ≠ (.slice Ao29 t232.length co29 : Value).ownBlock) u242001 x242001_1) ∧ (Kd.R (Kd.int .i64) 2 w' w.heap.size (fun _ => True) (.slice Ao21 t227.length co21) t227) ∧ (w'.heap[gb224]? = some (.cells #[.int .i64 x225000_1, .int .i64 x225001_1, .int .i64 x225002_1] 23 (0, 0))) ∧ (w'.heap[gb239]? = some (.cells #[.int .i64 t231, .slice Ao29 t232.length co29] 36 (0, 0))) ∧ (w'.heap[gb240]? = some (.cells #[.int .i64 t235, .int .i64 t236, .int .i64 t237] 23 (0, 0))) ∧ (w'.heap[gb241]? = some (.cells #[.int .i64 x242000_1, u242001] 36 (0, 0))) ∧ (Below w.heap.size w w') ∧ (Kd.C (Kd.int .i64) w' A51 y244.length y244) ∧ (b 10 = true → b 11 = true → gb257 ≠ gb256) ∧ (b 10 = true → b 11 = true → gb256 ≠ gb257) ∧ (b 5 = true → Kd.R (Kd.int .i32) 21 w' w.heap.size (fun k_ => some k_ ≠ (.slice Ao29 t232.length co29 : Value).ownBlock ∧ some k_ ≠ (u242001 : Value).ownBlock) v250 t249) ∧ (b 5 = true → Kd.R (Kd.int .i32) 21 w' w.heap.size (fun k_ => some k_ ≠ (v250 : Value).ownBlock ∧ some k_ ≠ (u242001 : Value).ownBlock) (.slice Ao29 t232.length co29) t232) ∧ (b 5 = true → Kd.R (Kd.int .i32) 21 w' w.heap.size (fun k_ => some k_ ≠ (v250 : Value).ownBlock ∧ some k_ ≠ (.slice Ao29 t232.length co29 : Value).ownBlock) u242001 x242001_1) ∧ (b 10 = true → b 12 = false → w'.heap[gb256]? = some (.cells #[.int .i64 0, .slice none 0 0] 36 (0, 0))) ∧ (b 10 = true → w.heap.size ≤ gb256) ∧ (b 10 = true → w.heap.size ≤ gb256) ∧ (b 10 = true → gb224 ≠ gb256) ∧ (b 10 = true → gb256 ≠ gb224) ∧ (b 10 = true → gb239 ≠ gb256) ∧ (b 10 = true → gb256 ≠ gb239) ∧ (b 10 = true → gb240 ≠ gb256) ∧ (b 10 = true → gb256 ≠ gb240) ∧ (b 10 = true → gb241 ≠ gb256) ∧ (b 10 = true → gb256 ≠ gb241) ∧ (b 11 = true → b 13 = false → w'.heap[gb257]? = some (.cells #[.int .i64 0, .int .i64 0, .int .i64 0] 23 (0, 0))) ∧ (b 11 = true → w.heap.size ≤ gb257) ∧ (b 11 = true → w.heap.size ≤ gb257) ∧ (b 11 = true → gb224 ≠ gb257) ∧ (b 11 = true → gb257 ≠ gb224) ∧ (b 11 = true → gb239 ≠ gb257) ∧ (b 11 = true → gb257 ≠ gb239) ∧ (b 11 = true → gb240 ≠ gb257) ∧ (b 11 = true → gb257 ≠ gb240) ∧ (b 11 = true → gb241 ≠ gb257) ∧ (b 11 = true → gb257 ≠ gb241) ∧ (b 12 = true → w'.heap[gb256]? = some (.cells #[.int .i64 t248, v250] 36 (0, 0))) ∧ (b 13 = true → w'.heap[gb257]? = some (.cells #[.int .i64 t252, .int .i64 t253, .int .i64 t254] 23 (0, 0))) ∧ (b 5 = true → (m5_ : Value) = .tuple #[.agg #[.int .i64 t248, v250], .agg #[.int .i64 t252, .int .i64 t253, .int .i64 t254], .int .i64 t255]) ∧ (b 6 = true → (m6_ : Value) = .tuple #[.agg #[.int .i64 t248, v250], .agg #[.int .i64 t252, .int .i64 t253, .int .i64 t254], .int .i64 t255]) ∧ (b 7 = true → (m7_ : Value) = .agg #[.int .i64 t248, v250]) ∧ (b 10 = true → (m10_ : Value) = .pointer (some ⟨gb256, 0, none⟩)) ∧ (b 11 = true → (m11_ : Value) = .pointer (some ⟨gb257, 0, none⟩))) HT_.out HW_.out (by kernel_rfl) (by kernel_rfl) ?_ ?_ ?_
                        · skip
                          refine ⟨.bool false, ?_⟩
                          refine ⟨0, ?_⟩
                          refine ⟨0, ?_⟩
                          refine ⟨.bool false, ?_⟩
                          refine ⟨.bool false, ?_⟩
                          refine ⟨.bool false, ?_⟩
                          refine ⟨.bool false, ?_⟩
                          refine ⟨.bool false, ?_⟩
                          refine ⟨by simp only [putSel, Bool.false_eq_true, if_false], ?_⟩
                          refine ⟨fun _ => (by first | exact HO_240001.out | exact ((by (with_reducible repeat (first | apply Kd.R_alloc | apply Kd.R_drewN | apply Kd.R_drew)); exact HO_240001.out))), ?_⟩
                          refine ⟨fun _ => (by first | exact HO_242001.out | exact ((by (with_reducible repeat (first | apply Kd.R_alloc | apply Kd.R_drewN | apply Kd.R_drew)); exact HO_242001.out))), ?_⟩
                          refine ⟨(by first | exact HO_7.out | exact ((by (with_reducible repeat (first | apply Kd.R_alloc | apply Kd.R_drewN | apply Kd.R_drew)); exact HO_7.out))), ?_⟩
                          refine ⟨BK224.out, ?_⟩
                          refine ⟨BK239.out, ?_⟩
                          refine ⟨BK240.out, ?_⟩
                          refine ⟨BK241.out, ?_⟩
                          refine ⟨HB.out, ?_⟩
                          refine ⟨HR247.out, ?_⟩
                          refine ⟨fun h_ => absurd h_ (by decide), ?_⟩
                          refine ⟨fun h_ => absurd h_ (by decide), ?_⟩
                          refine ⟨fun h_ => absurd h_ (by decide), ?_⟩
                          refine ⟨fun h_ => absurd h_ (by decide), ?_⟩
                          refine ⟨fun h_ => absurd h_ (by decide), ?_⟩
                          refine ⟨fun h_ => absurd h_ (by decide), ?_⟩
                          refine ⟨fun h_ => absurd h_ (by decide), ?_⟩
                          refine ⟨fun h_ => absurd h_ (by decide), ?_⟩
                          refine ⟨fun h_ => absurd h_ (by decide), ?_⟩
                          refine ⟨fun h_ => absurd h_ (by decide), ?_⟩
                          refine ⟨fun h_ => absurd h_ (by decide), ?_⟩
                          refine ⟨fun h_ => absurd h_ (by decide), ?_⟩
                          refine ⟨fun h_ => absurd h_ (by decide), ?_⟩
                          refine ⟨fun h_ => absurd h_ (by decide), ?_⟩
                          refine ⟨fun h_ => absurd h_ (by decide), ?_⟩
                          refine ⟨fun h_ => absurd h_ (by decide), ?_⟩
                          refine ⟨fun h_ => absurd h_ (by decide), ?_⟩
                          refine ⟨fun h_ => absurd h_ (by decide), ?_⟩
                          refine ⟨fun h_ => absurd h_ (by decide), ?_⟩
                          refine ⟨fun h_ => absurd h_ (by decide), ?_⟩
                          refine ⟨fun h_ => absurd h_ (by decide), ?_⟩
                          refine ⟨fun h_ => absurd h_ (by decide), ?_⟩
                          refine ⟨fun h_ => absurd h_ (by decide), ?_⟩
                          refine ⟨fun h_ => absurd h_ (by decide), ?_⟩
                          refine ⟨fun h_ => absurd h_ (by decide), ?_⟩
                          refine ⟨fun h_ => absurd h_ (by decide), ?_⟩
                          refine ⟨fun h_ => absurd h_ (by decide), ?_⟩
                          refine ⟨fun h_ => absurd h_ (by decide), ?_⟩
                          refine ⟨fun h_ => absurd h_ (by decide), ?_⟩
                          refine ⟨fun h_ => absurd h_ (by decide), ?_⟩
                          refine ⟨fun h_ => absurd h_ (by decide), ?_⟩
                          refine ⟨fun h_ => absurd h_ (by decide), ?_⟩
                          refine ⟨fun h_ => absurd h_ (by decide), ?_⟩
                          exact fun h_ => absurd h_ (by decide)
                        · skip
                          clear BK224 BK239 BK240 BK241 HB HO_240001 HO_242001 HO_7 HR247
                          refine steps_cons ?_ ?_
                          · rintro b a w' ⟨v250, gb256, gb257, m5_, m6_, m7_, m10_, m11_, ha, Q_HO_240001, Q_HO_242001, Q_HO_7, Q_BK224, Q_BK239, Q_BK240, Q_BK241, Q_HB, Q_HR247, Q_NB257_256, Q_NB256_257, Q_HO251, Q_HO_240001_e5, Q_HO_242001_e5, Q_BK256, Q_GW256, Q_GE256, Q_NB224_256, Q_NB256_224, Q_NB239_256, Q_NB256_239, Q_NB240_256, Q_NB256_240, Q_NB241_256, Q_NB256_241, Q_BK257, Q_GW257, Q_GE257, Q_NB224_257, Q_NB257_224, Q_NB239_257, Q_NB257_239, Q_NB240_257, Q_NB257_240, Q_NB241_257, Q_NB257_241, Q_BK256_e12, Q_BK257_e13, Q_X5_, Q_X6_, Q_X7_, Q_X10_, Q_X11_⟩ hb_ hon hoff
                            refine ⟨_, rfl, fun K hK => ?_⟩
                            have e6 : a.tmps[6]? = some (.pointer (some ⟨gb224, 0, none⟩)) := by rw [ha]; exact (putSel_off rfl).trans rfl
                            replace ha := Aside0.mk ha
                            have HO_240001 := Aside0.mk (Q_HO_240001 (hoff 5 (by kernel_rfl)))
                            have HO_242001 := Aside0.mk (Q_HO_242001 (hoff 5 (by kernel_rfl)))
                            have HO_7 := Aside0.mk Q_HO_7
                            have BK224 := Aside0.mk Q_BK224
                            have BK239 := Aside0.mk Q_BK239
                            have BK240 := Aside0.mk Q_BK240
                            have BK241 := Aside0.mk Q_BK241
                            have HB := Aside0.mk Q_HB
                            have HR247 := Aside0.mk Q_HR247
                            have hc0_ : w'.cell? ⟨gb224, 0, none⟩ = some (.int .i64 x225000_1) := (blk_cell BK224.out 0).trans rfl
                            have hc1_ : w'.cell? ⟨gb224, 1, none⟩ = some (.int .i64 x225001_1) := (blk_cell BK224.out 1).trans rfl
                            have hc2_ : w'.cell? ⟨gb224, 2, none⟩ = some (.int .i64 x225002_1) := (blk_cell BK224.out 2).trans rfl
                            refine value_ (w1 := w') (v := .agg #[.int .i64 x225000_1, .int .i64 x225001_1, .int .i64 x225002_1]) (by rfl) rfl ?_ ?_
                            · go_simp
                              (try simp only [i64_w])
                              try rfl
                            refine hK.out _ _ ?_
                            refine ⟨v250, ?_⟩
                            refine ⟨gb256, ?_⟩
                            refine ⟨gb257, ?_⟩
                            refine ⟨m5_, ?_⟩
                            refine ⟨m6_, ?_⟩
                            refine ⟨m7_, ?_⟩
                            refine ⟨m10_, ?_⟩
                            refine ⟨m11_, ?_⟩
                            refine ⟨(by rw [ha.out]; exact putSel_upk 0 hb_ rfl rfl rfl), ?_⟩
                            refine ⟨Q_HO_240001, ?_⟩
                            refine ⟨Q_HO_242001, ?_⟩
                            refine ⟨Q_HO_7, ?_⟩
                            refine ⟨Q_BK224, ?_⟩
                            refine ⟨Q_BK239, ?_⟩
                            refine ⟨Q_BK240, ?_⟩
                            refine ⟨Q_BK241, ?_⟩
                            refine ⟨Q_HB, ?_⟩
                            refine ⟨Q_HR247, ?_⟩
                            refine ⟨Q_NB257_256, ?_⟩
                            refine ⟨Q_NB256_257, ?_⟩
                            refine ⟨fun h0_ => absurd ((hoff 5 (by kernel_rfl)).symm.trans h0_) (by decide), ?_⟩
                            refine ⟨fun h0_ => absurd ((hoff 5 (by kernel_rfl)).symm.trans h0_) (by decide), ?_⟩
                            refine ⟨fun h0_ => absurd ((hoff 5 (by kernel_rfl)).symm.trans h0_) (by decide), ?_⟩
                            refine ⟨Q_BK256, ?_⟩
                            refine ⟨Q_GW256, ?_⟩
                            refine ⟨Q_GE256, ?_⟩
                            refine ⟨Q_NB224_256, ?_⟩
                            refine ⟨Q_NB256_224, ?_⟩
                            refine ⟨Q_NB239_256, ?_⟩
                            refine ⟨Q_NB256_239, ?_⟩
                            refine ⟨Q_NB240_256, ?_⟩
                            refine ⟨Q_NB256_240, ?_⟩
                            refine ⟨Q_NB241_256, ?_⟩
                            refine ⟨Q_NB256_241, ?_⟩
                            refine ⟨Q_BK257, ?_⟩
                            refine ⟨Q_GW257, ?_⟩
                            refine ⟨Q_GE257, ?_⟩
                            refine ⟨Q_NB224_257, ?_⟩
                            refine ⟨Q_NB257_224, ?_⟩
                            refine ⟨Q_NB239_257, ?_⟩
                            refine ⟨Q_NB257_239, ?_⟩
                            refine ⟨Q_NB240_257, ?_⟩
                            refine ⟨Q_NB257_240, ?_⟩
                            refine ⟨Q_NB241_257, ?_⟩
                            refine ⟨Q_NB257_241, ?_⟩
                            refine ⟨fun h0_ => absurd ((hoff 12 (by kernel_rfl)).symm.trans h0_) (by decide), ?_⟩
                            refine ⟨fun h0_ => absurd ((hoff 13 (by kernel_rfl)).symm.trans h0_) (by decide), ?_⟩
                            refine ⟨fun h0_ => absurd ((hoff 5 (by kernel_rfl)).symm.trans h0_) (by decide), ?_⟩
                            refine ⟨fun h0_ => absurd ((hoff 6 (by kernel_rfl)).symm.trans h0_) (by decide), ?_⟩
                            refine ⟨fun h0_ => absurd ((hoff 7 (by kernel_rfl)).symm.trans h0_) (by decide), ?_⟩
                            refine ⟨Q_X10_, ?_⟩
                            exact Q_X11_
                          refine steps_cons ?_ ?_
                          · rintro b a w' ⟨v250, gb256, gb257, m5_, m6_, m7_, m10_, m11_, ha, Q_HO_240001, Q_HO_242001, Q_HO_7, Q_BK224, Q_BK239, Q_BK240, Q_BK241, Q_HB, Q_HR247, Q_NB257_256, Q_NB256_257, Q_HO251, Q_HO_240001_e5, Q_HO_242001_e5, Q_BK256, Q_GW256, Q_GE256, Q_NB224_256, Q_NB256_224, Q_NB239_256, Q_NB256_239, Q_NB240_256, Q_NB256_240, Q_NB241_256, Q_NB256_241, Q_BK257, Q_GW257, Q_GE257, Q_NB224_257, Q_NB257_224, Q_NB239_257, Q_NB257_239, Q_NB240_257, Q_NB257_240, Q_NB241_257, Q_NB257_241, Q_BK256_e12, Q_BK257_e13, Q_X5_, Q_X6_, Q_X7_, Q_X10_, Q_X11_⟩ hb_ hon hoff
                            refine ⟨_, rfl, fun K hK => ?_⟩
                            have e66 : a.tmps[66]? = some (.slice Ao21 t227.length co21) := by rw [ha]; exact (putSel_off rfl).trans rfl
                            have e67 : a.tmps[67]? = some (.int .i64 x12_1) := by rw [ha]; exact (putSel_off rfl).trans rfl
                            have e68 : a.tmps[68]? = some (.int .i64 x14_39) := by rw [ha]; exact (putSel_off rfl).trans rfl
                            replace ha := Aside0.mk ha
                            have HO_240001 := Aside0.mk (Q_HO_240001 (hoff 5 (by kernel_rfl)))
                            have HO_242001 := Aside0.mk (Q_HO_242001 (hoff 5 (by kernel_rfl)))
                            have HO_7 := Aside0.mk Q_HO_7
                            have BK224 := Aside0.mk Q_BK224
                            have BK239 := Aside0.mk Q_BK239
                            have BK240 := Aside0.mk Q_BK240
                            have BK241 := Aside0.mk Q_BK241
                            have HB := Aside0.mk Q_HB
                            have HR247 := Aside0.mk Q_HR247
                            refine value_ (w1 := w') (v := .slice A51 y244.length c51) (by rfl) rfl ?_ ?_
                            · go_simp
                              (try simp only [i64_w])
                              try rfl
                            refine hK.out _ _ ?_
                            refine ⟨v250, ?_⟩
                            refine ⟨gb256, ?_⟩
                            refine ⟨gb257, ?_⟩
                            refine ⟨m5_, ?_⟩
                            refine ⟨m6_, ?_⟩
                            refine ⟨m7_, ?_⟩
                            refine ⟨m10_, ?_⟩
                            refine ⟨m11_, ?_⟩
                            refine ⟨(by rw [ha.out]; exact putSel_upk 1 hb_ rfl rfl rfl), ?_⟩
                            refine ⟨Q_HO_240001, ?_⟩
                            refine ⟨Q_HO_242001, ?_⟩
                            refine ⟨Q_HO_7, ?_⟩
                            refine ⟨Q_BK224, ?_⟩
                            refine ⟨Q_BK239, ?_⟩
                            refine ⟨Q_BK240, ?_⟩
                            refine ⟨Q_BK241, ?_⟩
                            refine ⟨Q_HB, ?_⟩
                            refine ⟨Q_HR247, ?_⟩
                            refine ⟨Q_NB257_256, ?_⟩
                            refine ⟨Q_NB256_257, ?_⟩
                            refine ⟨fun h0_ => absurd ((hoff 5 (by kernel_rfl)).symm.trans h0_) (by decide), ?_⟩
                            refine ⟨fun h0_ => absurd ((hoff 5 (by kernel_rfl)).symm.trans h0_) (by decide), ?_⟩
                            refine ⟨fun h0_ => absurd ((hoff 5 (by kernel_rfl)).symm.trans h0_) (by decide), ?_⟩
                            refine ⟨Q_BK256, ?_⟩
                            refine ⟨Q_GW256, ?_⟩
                            refine ⟨Q_GE256, ?_⟩
                            refine ⟨Q_NB224_256, ?_⟩
                            refine ⟨Q_NB256_224, ?_⟩
                            refine ⟨Q_NB239_256, ?_⟩
                            refine ⟨Q_NB256_239, ?_⟩
                            refine ⟨Q_NB240_256, ?_⟩
                            refine ⟨Q_NB256_240, ?_⟩
                            refine ⟨Q_NB241_256, ?_⟩
                            refine ⟨Q_NB256_241, ?_⟩
                            refine ⟨Q_BK257, ?_⟩
                            refine ⟨Q_GW257, ?_⟩
                            refine ⟨Q_GE257, ?_⟩
                            refine ⟨Q_NB224_257, ?_⟩
                            refine ⟨Q_NB257_224, ?_⟩
                            refine ⟨Q_NB239_257, ?_⟩
                            refine ⟨Q_NB257_239, ?_⟩
                            refine ⟨Q_NB240_257, ?_⟩
                            refine ⟨Q_NB257_240, ?_⟩
                            refine ⟨Q_NB241_257, ?_⟩
                            refine ⟨Q_NB257_241, ?_⟩
                            refine ⟨fun h0_ => absurd ((hoff 12 (by kernel_rfl)).symm.trans h0_) (by decide), ?_⟩
                            refine ⟨fun h0_ => absurd ((hoff 13 (by kernel_rfl)).symm.trans h0_) (by decide), ?_⟩
                            refine ⟨fun h0_ => absurd ((hoff 5 (by kernel_rfl)).symm.trans h0_) (by decide), ?_⟩
                            refine ⟨fun h0_ => absurd ((hoff 6 (by kernel_rfl)).symm.trans h0_) (by decide), ?_⟩
                            refine ⟨fun h0_ => absurd ((hoff 7 (by kernel_rfl)).symm.trans h0_) (by decide), ?_⟩
                            refine ⟨Q_X10_, ?_⟩
                            exact Q_X11_
                          refine steps_cons ?_ ?_
                          · rintro b a w' ⟨v250, gb256, gb257, m5_, m6_, m7_, m10_, m11_, ha, Q_HO_240001, Q_HO_242001, Q_HO_7, Q_BK224, Q_BK239, Q_BK240, Q_BK241, Q_HB, Q_HR247, Q_NB257_256, Q_NB256_257, Q_HO251, Q_HO_240001_e5, Q_HO_242001_e5, Q_BK256, Q_GW256, Q_GE256, Q_NB224_256, Q_NB256_224, Q_NB239_256, Q_NB256_239, Q_NB240_256, Q_NB256_240, Q_NB241_256, Q_NB256_241, Q_BK257, Q_GW257, Q_GE257, Q_NB224_257, Q_NB257_224, Q_NB239_257, Q_NB257_239, Q_NB240_257, Q_NB257_240, Q_NB241_257, Q_NB257_241, Q_BK256_e12, Q_BK257_e13, Q_X5_, Q_X6_, Q_X7_, Q_X10_, Q_X11_⟩ hb_ hon hoff
                            refine ⟨_, rfl, fun K hK => ?_⟩
                            have e65 : a.tmps[65]? = some (.agg #[.int .i64 x225000_1, .int .i64 x225001_1, .int .i64 x225002_1]) := by rw [ha]; exact putSel_on (e := (0, 65, .agg #[.int .i64 x225000_1, .int .i64 x225001_1, .int .i64 x225002_1])) 0 rfl rfl (hon 0 (by kernel_rfl)) rfl
                            have e69 : a.tmps[69]? = some (.slice A51 y244.length c51) := by rw [ha]; exact putSel_on (e := (4, 69, .slice A51 y244.length c51)) 1 rfl rfl (hon 4 (by kernel_rfl)) rfl
                            replace ha := Aside0.mk ha
                            have HO_240001 := Aside0.mk (Q_HO_240001 hb_)
                            have HO_242001 := Aside0.mk (Q_HO_242001 hb_)
                            have HO_7 := Aside0.mk Q_HO_7
                            have BK224 := Aside0.mk Q_BK224
                            have BK239 := Aside0.mk Q_BK239
                            have BK240 := Aside0.mk Q_BK240
                            have BK241 := Aside0.mk Q_BK241
                            have HB := Aside0.mk Q_HB
                            have HR247 := Aside0.mk Q_HR247
                            refine goes_ Try.func12 (by kernel_rfl) rfl #[.agg #[.int .i64 x225000_1, .int .i64 x225001_1, .int .i64 x225002_1], .int .i64 3, .slice A51 y244.length c51] (by rfl) rfl rfl (by first | (simp only [List.map_toArray, List.map_cons, List.map_nil, Act.eval, Array.getD_eq_getD_getElem?, Option.getD_some, e65, e69]; done) | (simp only [List.map_toArray, List.map_cons, List.map_nil, Act.eval, Array.getD_eq_getD_getElem?, Option.getD_some, e65, e69]; rfl)) ?_
                            with_reducible refine (limiter_Run.calls kj39 x225000_1 x225001_1 x225002_1 3 _ _ y244 t248 t249 t252 t253 t254 t255 _ ?side1 ?side2 A47.out).mono ?_
                            (case side1 => repeat (first | exact (by repeat (first | (with_reducible exact HR247.out) | (with_reducible refine Kd.C_alloc ?_ _) | (with_reducible refine Kd.C_drewN ?_ _) | (with_reducible refine Kd.C_drew ?_) | exact HR247.out)) | (with_reducible refine Kd.C_alloc ?_ _) | (with_reducible refine Kd.C_drewN ?_ _) | (with_reducible refine Kd.C_drew ?_)))
                            (case side2 => exact HC247.out)
                            rintro e w52 ⟨v250, rfl, ho0, hb⟩
                            refine ⟨_, rfl, ?_⟩
                            have n0_ := Aside0.mk (Kd.R_below (by (with_reducible repeat (first | apply Kd.R_alloc | apply Kd.R_drewN | apply Kd.R_drew)); exact HO_7.out) hb)
                            have n1_ := Aside0.mk (Kd.R_elder' (by (with_reducible repeat (first | apply Kd.R_alloc | apply Kd.R_drewN | apply Kd.R_drew)); exact HO_240001.out) (Kd.R_base ho0) hb)
                            have n2_ := Aside0.mk (Kd.R_elder' (by (with_reducible repeat (first | apply Kd.R_alloc | apply Kd.R_drewN | apply Kd.R_drew)); exact HO_242001.out) (Kd.R_base ho0) hb)
                            have n3_ := Aside0.mk (Kd.R_lower (Kd.R_new' (Kd.R_new' ho0 (Kd.R_lt (by (with_reducible repeat (first | apply Kd.R_alloc | apply Kd.R_drewN | apply Kd.R_drew)); exact HO_240001.out))) (Kd.R_lt (by (with_reducible repeat (first | apply Kd.R_alloc | apply Kd.R_drewN | apply Kd.R_drew)); exact HO_242001.out))) (below_size (by repeat (first | (with_reducible first | exact HB.out | apply below_alloc | apply pw_below_drewN | apply below_drew1 | refine below_set ?_ GE224.out | refine below_set ?_ GE239.out | refine below_set ?_ GE240.out | refine below_set ?_ GE241.out) | exact HB.out))))
                            have n4_ := Aside0.mk (blk_below (g := gb224) (o := .cells #[.int .i64 x225000_1, .int .i64 x225001_1, .int .i64 x225002_1] 23 (0, 0)) (by (with_reducible repeat (first | refine blk_drewN ?_ _ | refine blk_drew ?_ | refine blk_alloc ?_ _)); exact BK224.out) hb)
                            have n5_ := Aside0.mk (blk_below (g := gb239) (o := .cells #[.int .i64 t231, .slice Ao29 t232.length co29] 36 (0, 0)) (by (with_reducible repeat (first | refine blk_drewN ?_ _ | refine blk_drew ?_ | refine blk_alloc ?_ _)); exact BK239.out) hb)
                            have n6_ := Aside0.mk (blk_below (g := gb240) (o := .cells #[.int .i64 t235, .int .i64 t236, .int .i64 t237] 23 (0, 0)) (by (with_reducible repeat (first | refine blk_drewN ?_ _ | refine blk_drew ?_ | refine blk_alloc ?_ _)); exact BK240.out) hb)
                            have n7_ := Aside0.mk (blk_below (g := gb241) (o := .cells #[.int .i64 x242000_1, u242001] 36 (0, 0)) (by (with_reducible repeat (first | refine blk_drewN ?_ _ | refine blk_drew ?_ | refine blk_alloc ?_ _)); exact BK241.out) hb)
                            have n8_ := Aside0.mk (Kd.C_below (by repeat (first | (with_reducible exact HR247.out) | (with_reducible refine Kd.C_alloc ?_ _) | (with_reducible refine Kd.C_drewN ?_ _) | (with_reducible refine Kd.C_drew ?_) | exact HR247.out)) hb)
                            have n9_ := Aside0.mk (below_step (by repeat (first | (with_reducible first | exact HB.out | apply below_alloc | apply pw_below_drewN | apply below_drew1 | refine below_set ?_ GE224.out | refine below_set ?_ GE239.out | refine below_set ?_ GE240.out | refine below_set ?_ GE241.out) | exact HB.out)) hb)
                            have z_BK256 := fun (h0_ : b 10 = true) (h1_ : b 12 = false) => (show w52.heap[gb256]? = some (.cells #[.int .i64 0, .slice none 0 0] 36 (0, 0)) from by first | exact (blk_below (g := gb256) (o := .cells #[.int .i64 0, .slice none 0 0] 36 (0, 0)) (by (with_reducible repeat (first | refine blk_drewN ?_ _ | refine blk_drew ?_ | refine blk_alloc ?_ _)); exact (Q_BK256 h0_ h1_)) hb))
                            have z_BK257 := fun (h0_ : b 11 = true) (h1_ : b 13 = false) => (show w52.heap[gb257]? = some (.cells #[.int .i64 0, .int .i64 0, .int .i64 0] 23 (0, 0)) from by first | exact (blk_below (g := gb257) (o := .cells #[.int .i64 0, .int .i64 0, .int .i64 0] 23 (0, 0)) (by (with_reducible repeat (first | refine blk_drewN ?_ _ | refine blk_drew ?_ | refine blk_alloc ?_ _)); exact (Q_BK257 h0_ h1_)) hb))
                            clear HO_7
                            clear HO_240001
                            clear HO_242001
                            clear BK224
                            clear BK239
                            clear BK240
                            clear BK241
                            clear HR247
                            clear HB
                            have HO_7 := n0_
                            have HO_240001 := n1_
                            have HO_242001 := n2_
                            have HO251 := n3_
                            have BK224 := n4_
                            have BK239 := n5_
                            have BK240 := n6_
                            have BK241 := n7_
                            have HR247 := n8_
                            have HB := n9_
                            clear n0_ n1_ n2_ n3_ n4_ n5_ n6_ n7_ n8_ n9_
                            (try clear hb)
                            (try clear hb2)
                            (try clear hk)
                            (try clear hi)
                            (try clear ho0)
                            refine hK.out _ _ ?_
                            refine ⟨v250, ?_⟩
                            refine ⟨gb256, ?_⟩
                            refine ⟨gb257, ?_⟩
                            refine ⟨(.tuple #[.agg #[.int .i64 t248, v250], .agg #[.int .i64 t252, .int .i64 t253, .int .i64 t254], .int .i64 t255]), ?_⟩
                            refine ⟨m6_, ?_⟩
                            refine ⟨m7_, ?_⟩
                            refine ⟨m10_, ?_⟩
                            refine ⟨m11_, ?_⟩
                            refine ⟨(by rw [ha.out]; exact putSel_upk 2 hb_ rfl rfl rfl), ?_⟩
                            refine ⟨fun h0_ => absurd ((up_self b 5).symm.trans h0_) (by decide), ?_⟩
                            refine ⟨fun h0_ => absurd ((up_self b 5).symm.trans h0_) (by decide), ?_⟩
                            refine ⟨(by (with_reducible repeat (first | apply Kd.R_alloc | apply Kd.R_drewN | apply Kd.R_drew)); exact HO_7.out), ?_⟩
                            refine ⟨(by (with_reducible repeat (first | refine blk_drewN ?_ _ | refine blk_drew ?_ | refine blk_alloc ?_ _)); exact BK224.out), ?_⟩
                            refine ⟨(by (with_reducible repeat (first | refine blk_drewN ?_ _ | refine blk_drew ?_ | refine blk_alloc ?_ _)); exact BK239.out), ?_⟩
                            refine ⟨(by (with_reducible repeat (first | refine blk_drewN ?_ _ | refine blk_drew ?_ | refine blk_alloc ?_ _)); exact BK240.out), ?_⟩
                            refine ⟨(by (with_reducible repeat (first | refine blk_drewN ?_ _ | refine blk_drew ?_ | refine blk_alloc ?_ _)); exact BK241.out), ?_⟩
                            refine ⟨(by repeat (first | (with_reducible first | exact HB.out | apply below_alloc | apply pw_below_drewN | apply below_drew1 | refine below_set ?_ GE224.out | refine below_set ?_ GE239.out | refine below_set ?_ GE240.out | refine below_set ?_ GE241.out) | exact HB.out)), ?_⟩
                            refine ⟨(by repeat (first | (with_reducible exact HR247.out) | (with_reducible refine Kd.C_alloc ?_ _) | (with_reducible refine Kd.C_drewN ?_ _) | (with_reducible refine Kd.C_drew ?_) | exact HR247.out)), ?_⟩
                            refine ⟨Q_NB257_256, ?_⟩
                            refine ⟨Q_NB256_257, ?_⟩
                            refine ⟨fun _ => (by (with_reducible repeat (first | apply Kd.R_alloc | apply Kd.R_drewN | apply Kd.R_drew)); exact Kd.R_mono HO251.out (fun _ hk => ⟨hk.1.2, hk.2⟩)), ?_⟩
                            refine ⟨fun _ => (by (with_reducible repeat (first | apply Kd.R_alloc | apply Kd.R_drewN | apply Kd.R_drew)); exact Kd.R_mono HO_240001.out (fun _ hk => ⟨hk.2, hk.1⟩)), ?_⟩
                            refine ⟨fun _ => (by (with_reducible repeat (first | apply Kd.R_alloc | apply Kd.R_drewN | apply Kd.R_drew)); exact Kd.R_mono HO_242001.out (fun _ hk => ⟨hk.2, hk.1⟩)), ?_⟩
                            refine ⟨z_BK256, ?_⟩
                            refine ⟨Q_GW256, ?_⟩
                            refine ⟨Q_GE256, ?_⟩
                            refine ⟨Q_NB224_256, ?_⟩
                            refine ⟨Q_NB256_224, ?_⟩
                            refine ⟨Q_NB239_256, ?_⟩
                            refine ⟨Q_NB256_239, ?_⟩
                            refine ⟨Q_NB240_256, ?_⟩
                            refine ⟨Q_NB256_240, ?_⟩
                            refine ⟨Q_NB241_256, ?_⟩
                            refine ⟨Q_NB256_241, ?_⟩
                            refine ⟨z_BK257, ?_⟩
                            refine ⟨Q_GW257, ?_⟩
                            refine ⟨Q_GE257, ?_⟩
                            refine ⟨Q_NB224_257, ?_⟩
                            refine ⟨Q_NB257_224, ?_⟩
                            refine ⟨Q_NB239_257, ?_⟩
                            refine ⟨Q_NB257_239, ?_⟩
                            refine ⟨Q_NB240_257, ?_⟩
                            refine ⟨Q_NB257_240, ?_⟩
                            refine ⟨Q_NB241_257, ?_⟩
                            refine ⟨Q_NB257_241, ?_⟩
                            refine ⟨fun h0_ => absurd ((hoff 12 (by kernel_rfl)).symm.trans h0_) (by decide), ?_⟩
                            refine ⟨fun h0_ => absurd ((hoff 13 (by kernel_rfl)).symm.trans h0_) (by decide), ?_⟩
                            refine ⟨fun _ => rfl, ?_⟩
                            refine ⟨fun h0_ => absurd ((hoff 6 (by kernel_rfl)).symm.trans h0_) (by decide), ?_⟩
                            refine ⟨fun h0_ => absurd ((hoff 7 (by kernel_rfl)).symm.trans h0_) (by decide), ?_⟩
                            refine ⟨Q_X10_, ?_⟩
                            exact Q_X11_
                          refine steps_cons ?_ ?_
                          · rintro b a w' ⟨v250, gb256, gb257, m5_, m6_, m7_, m10_, m11_, ha, Q_HO_240001, Q_HO_242001, Q_HO_7, Q_BK224, Q_BK239, Q_BK240, Q_BK241, Q_HB, Q_HR247, Q_NB257_256, Q_NB256_257, Q_HO251, Q_HO_240001_e5, Q_HO_242001_e5, Q_BK256, Q_GW256, Q_GE256, Q_NB224_256, Q_NB256_224, Q_NB239_256, Q_NB256_239, Q_NB240_256, Q_NB256_240, Q_NB241_256, Q_NB256_241, Q_BK257, Q_GW257, Q_GE257, Q_NB224_257, Q_NB257_224, Q_NB239_257, Q_NB257_239, Q_NB240_257, Q_NB257_240, Q_NB241_257, Q_NB257_241, Q_BK256_e12, Q_BK257_e13, Q_X5_, Q_X6_, Q_X7_, Q_X10_, Q_X11_⟩ hb_ hon hoff
                            refine ⟨_, rfl, fun K hK => ?_⟩
                            have e70 : a.tmps[70]? = some (m5_) := by rw [ha]; exact putSel_on (e := (5, 70, m5_)) 2 rfl rfl (hon 5 (by kernel_rfl)) rfl
                            rw [Q_X5_ (hon 5 (by kernel_rfl))] at e70
                            replace ha := Aside0.mk ha
                            have HO_7 := Aside0.mk Q_HO_7
                            have BK224 := Aside0.mk Q_BK224
                            have BK239 := Aside0.mk Q_BK239
                            have BK240 := Aside0.mk Q_BK240
                            have BK241 := Aside0.mk Q_BK241
                            have HB := Aside0.mk Q_HB
                            have HR247 := Aside0.mk Q_HR247
                            have HO251 := Aside0.mk (Q_HO251 (hon 5 (by kernel_rfl)))
                            have HO_240001 := Aside0.mk (Q_HO_240001_e5 (hon 5 (by kernel_rfl)))
                            have HO_242001 := Aside0.mk (Q_HO_242001_e5 (hon 5 (by kernel_rfl)))
                            refine value_ (w1 := w') (v := .tuple #[.agg #[.int .i64 t248, v250], .agg #[.int .i64 t252, .int .i64 t253, .int .i64 t254], .int .i64 t255]) (by rfl) rfl ?_ ?_
                            · go_simp
                              (try simp only [i64_w])
                              try rfl
                            refine hK.out _ _ ?_
                            refine ⟨v250, ?_⟩
                            refine ⟨gb256, ?_⟩
                            refine ⟨gb257, ?_⟩
                            refine ⟨m5_, ?_⟩
                            refine ⟨(.tuple #[.agg #[.int .i64 t248, v250], .agg #[.int .i64 t252, .int .i64 t253, .int .i64 t254], .int .i64 t255]), ?_⟩
                            refine ⟨m7_, ?_⟩
                            refine ⟨m10_, ?_⟩
                            refine ⟨m11_, ?_⟩
                            refine ⟨(by rw [ha.out]; exact putSel_upk 3 hb_ rfl rfl rfl), ?_⟩
                            refine ⟨fun h0_ => absurd ((hon 5 (by kernel_rfl)).symm.trans h0_) (by decide), ?_⟩
                            refine ⟨fun h0_ => absurd ((hon 5 (by kernel_rfl)).symm.trans h0_) (by decide), ?_⟩
                            refine ⟨Q_HO_7, ?_⟩
                            refine ⟨Q_BK224, ?_⟩
                            refine ⟨Q_BK239, ?_⟩
                            refine ⟨Q_BK240, ?_⟩
                            refine ⟨Q_BK241, ?_⟩
                            refine ⟨Q_HB, ?_⟩
                            refine ⟨Q_HR247, ?_⟩
                            refine ⟨Q_NB257_256, ?_⟩
                            refine ⟨Q_NB256_257, ?_⟩
                            refine ⟨Q_HO251, ?_⟩
                            refine ⟨Q_HO_240001_e5, ?_⟩
                            refine ⟨Q_HO_242001_e5, ?_⟩
                            refine ⟨Q_BK256, ?_⟩
                            refine ⟨Q_GW256, ?_⟩
                            refine ⟨Q_GE256, ?_⟩
                            refine ⟨Q_NB224_256, ?_⟩
                            refine ⟨Q_NB256_224, ?_⟩
                            refine ⟨Q_NB239_256, ?_⟩
                            refine ⟨Q_NB256_239, ?_⟩
                            refine ⟨Q_NB240_256, ?_⟩
                            refine ⟨Q_NB256_240, ?_⟩
                            refine ⟨Q_NB241_256, ?_⟩
                            refine ⟨Q_NB256_241, ?_⟩
                            refine ⟨Q_BK257, ?_⟩
                            refine ⟨Q_GW257, ?_⟩
                            refine ⟨Q_GE257, ?_⟩
                            refine ⟨Q_NB224_257, ?_⟩
                            refine ⟨Q_NB257_224, ?_⟩
                            refine ⟨Q_NB239_257, ?_⟩
                            refine ⟨Q_NB257_239, ?_⟩
                            refine ⟨Q_NB240_257, ?_⟩
                            refine ⟨Q_NB257_240, ?_⟩
                            refine ⟨Q_NB241_257, ?_⟩
                            refine ⟨Q_NB257_241, ?_⟩
                            refine ⟨fun h0_ => absurd ((hoff 12 (by kernel_rfl)).symm.trans h0_) (by decide), ?_⟩
                            refine ⟨fun h0_ => absurd ((hoff 13 (by kernel_rfl)).symm.trans h0_) (by decide), ?_⟩
                            refine ⟨Q_X5_, ?_⟩
                            refine ⟨fun _ => rfl, ?_⟩
                            refine ⟨fun h0_ => absurd ((hoff 7 (by kernel_rfl)).symm.trans h0_) (by decide), ?_⟩
                            refine ⟨Q_X10_, ?_⟩
                            exact Q_X11_
                          refine steps_cons ?_ ?_
                          · rintro b a w' ⟨v250, gb256, gb257, m5_, m6_, m7_, m10_, m11_, ha, Q_HO_240001, Q_HO_242001, Q_HO_7, Q_BK224, Q_BK239, Q_BK240, Q_BK241, Q_HB, Q_HR247, Q_NB257_256, Q_NB256_257, Q_HO251, Q_HO_240001_e5, Q_HO_242001_e5, Q_BK256, Q_GW256, Q_GE256, Q_NB224_256, Q_NB256_224, Q_NB239_256, Q_NB256_239, Q_NB240_256, Q_NB256_240, Q_NB241_256, Q_NB256_241, Q_BK257, Q_GW257, Q_GE257, Q_NB224_257, Q_NB257_224, Q_NB239_257, Q_NB257_239, Q_NB240_257, Q_NB257_240, Q_NB241_257, Q_NB257_241, Q_BK256_e12, Q_BK257_e13, Q_X5_, Q_X6_, Q_X7_, Q_X10_, Q_X11_⟩ hb_ hon hoff
                            refine ⟨_, rfl, fun K hK => ?_⟩
                            have e64 : a.tmps[64]? = some (m6_) := by rw [ha]; exact putSel_on (e := (6, 64, m6_)) 3 rfl rfl (hon 6 (by kernel_rfl)) rfl
                            rw [Q_X6_ (hon 6 (by kernel_rfl))] at e64
                            replace ha := Aside0.mk ha
                            have HO_7 := Aside0.mk Q_HO_7
                            have BK224 := Aside0.mk Q_BK224
                            have BK239 := Aside0.mk Q_BK239
                            have BK240 := Aside0.mk Q_BK240
                            have BK241 := Aside0.mk Q_BK241
                            have HB := Aside0.mk Q_HB
                            have HR247 := Aside0.mk Q_HR247
                            have HO251 := Aside0.mk (Q_HO251 (hon 5 (by kernel_rfl)))
                            have HO_240001 := Aside0.mk (Q_HO_240001_e5 (hon 5 (by kernel_rfl)))
                            have HO_242001 := Aside0.mk (Q_HO_242001_e5 (hon 5 (by kernel_rfl)))
                            refine value_ (w1 := w') (v := .agg #[.int .i64 t248, v250]) (by rfl) rfl ?_ ?_
                            · go_simp
                              (try simp only [i64_w])
                              try rfl
                            refine hK.out _ _ ?_
                            refine ⟨v250, ?_⟩
                            refine ⟨gb256, ?_⟩
                            refine ⟨gb257, ?_⟩
                            refine ⟨m5_, ?_⟩
                            refine ⟨m6_, ?_⟩
                            refine ⟨(.agg #[.int .i64 t248, v250]), ?_⟩
                            refine ⟨m10_, ?_⟩
                            refine ⟨m11_, ?_⟩
                            refine ⟨(by rw [ha.out]; exact putSel_upk 4 hb_ rfl rfl rfl), ?_⟩
                            refine ⟨fun h0_ => absurd ((hon 5 (by kernel_rfl)).symm.trans h0_) (by decide), ?_⟩
                            refine ⟨fun h0_ => absurd ((hon 5 (by kernel_rfl)).symm.trans h0_) (by decide), ?_⟩
                            refine ⟨Q_HO_7, ?_⟩
                            refine ⟨Q_BK224, ?_⟩
                            refine ⟨Q_BK239, ?_⟩
                            refine ⟨Q_BK240, ?_⟩
                            refine ⟨Q_BK241, ?_⟩
                            refine ⟨Q_HB, ?_⟩
                            refine ⟨Q_HR247, ?_⟩
                            refine ⟨Q_NB257_256, ?_⟩
                            refine ⟨Q_NB256_257, ?_⟩
                            refine ⟨Q_HO251, ?_⟩
                            refine ⟨Q_HO_240001_e5, ?_⟩
                            refine ⟨Q_HO_242001_e5, ?_⟩
                            refine ⟨Q_BK256, ?_⟩
                            refine ⟨Q_GW256, ?_⟩
                            refine ⟨Q_GE256, ?_⟩
                            refine ⟨Q_NB224_256, ?_⟩
                            refine ⟨Q_NB256_224, ?_⟩
                            refine ⟨Q_NB239_256, ?_⟩
                            refine ⟨Q_NB256_239, ?_⟩
                            refine ⟨Q_NB240_256, ?_⟩
                            refine ⟨Q_NB256_240, ?_⟩
                            refine ⟨Q_NB241_256, ?_⟩
                            refine ⟨Q_NB256_241, ?_⟩
                            refine ⟨Q_BK257, ?_⟩
                            refine ⟨Q_GW257, ?_⟩
                            refine ⟨Q_GE257, ?_⟩
                            refine ⟨Q_NB224_257, ?_⟩
                            refine ⟨Q_NB257_224, ?_⟩
                            refine ⟨Q_NB239_257, ?_⟩
                            refine ⟨Q_NB257_239, ?_⟩
                            refine ⟨Q_NB240_257, ?_⟩
                            refine ⟨Q_NB257_240, ?_⟩
                            refine ⟨Q_NB241_257, ?_⟩
                            refine ⟨Q_NB257_241, ?_⟩
                            refine ⟨fun h0_ => absurd ((hoff 12 (by kernel_rfl)).symm.trans h0_) (by decide), ?_⟩
                            refine ⟨fun h0_ => absurd ((hoff 13 (by kernel_rfl)).symm.trans h0_) (by decide), ?_⟩
                            refine ⟨Q_X5_, ?_⟩
                            refine ⟨Q_X6_, ?_⟩
                            refine ⟨fun _ => rfl, ?_⟩
                            refine ⟨Q_X10_, ?_⟩
                            exact Q_X11_
                          refine steps_cons ?_ ?_
                          · rintro b a w' ⟨v250, gb256, gb257, m5_, m6_, m7_, m10_, m11_, ha, Q_HO_240001, Q_HO_242001, Q_HO_7, Q_BK224, Q_BK239, Q_BK240, Q_BK241, Q_HB, Q_HR247, Q_NB257_256, Q_NB256_257, Q_HO251, Q_HO_240001_e5, Q_HO_242001_e5, Q_BK256, Q_GW256, Q_GE256, Q_NB224_256, Q_NB256_224, Q_NB239_256, Q_NB256_239, Q_NB240_256, Q_NB256_240, Q_NB241_256, Q_NB256_241, Q_BK257, Q_GW257, Q_GE257, Q_NB224_257, Q_NB257_224, Q_NB239_257, Q_NB257_239, Q_NB240_257, Q_NB257_240, Q_NB241_257, Q_NB257_241, Q_BK256_e12, Q_BK257_e13, Q_X5_, Q_X6_, Q_X7_, Q_X10_, Q_X11_⟩ hb_ hon hoff
                            refine ⟨_, rfl, fun K hK => ?_⟩
                            have e64 : a.tmps[64]? = some (m6_) := by rw [ha]; exact putSel_on (e := (6, 64, m6_)) 3 rfl rfl (hon 6 (by kernel_rfl)) rfl
                            rw [Q_X6_ (hon 6 (by kernel_rfl))] at e64
                            replace ha := Aside0.mk ha
                            have HO_7 := Aside0.mk Q_HO_7
                            have BK224 := Aside0.mk Q_BK224
                            have BK239 := Aside0.mk Q_BK239
                            have BK240 := Aside0.mk Q_BK240
                            have BK241 := Aside0.mk Q_BK241
                            have HB := Aside0.mk Q_HB
                            have HR247 := Aside0.mk Q_HR247
                            have HO251 := Aside0.mk (Q_HO251 (hon 5 (by kernel_rfl)))
                            have HO_240001 := Aside0.mk (Q_HO_240001_e5 (hon 5 (by kernel_rfl)))
                            have HO_242001 := Aside0.mk (Q_HO_242001_e5 (hon 5 (by kernel_rfl)))
                            refine value_ (w1 := w') (v := .agg #[.int .i64 t252, .int .i64 t253, .int .i64 t254]) (by rfl) rfl ?_ ?_
                            · go_simp
                              (try simp only [i64_w])
                              try rfl
                            refine hK.out _ _ ?_
                            refine ⟨v250, ?_⟩
                            refine ⟨gb256, ?_⟩
                            refine ⟨gb257, ?_⟩
                            refine ⟨m5_, ?_⟩
                            refine ⟨m6_, ?_⟩
                            refine ⟨m7_, ?_⟩
                            refine ⟨m10_, ?_⟩
                            refine ⟨m11_, ?_⟩
                            refine ⟨(by rw [ha.out]; exact putSel_upk 5 hb_ rfl rfl rfl), ?_⟩
                            refine ⟨fun h0_ => absurd ((hon 5 (by kernel_rfl)).symm.trans h0_) (by decide), ?_⟩
                            refine ⟨fun h0_ => absurd ((hon 5 (by kernel_rfl)).symm.trans h0_) (by decide), ?_⟩
                            refine ⟨Q_HO_7, ?_⟩
                            refine ⟨Q_BK224, ?_⟩
                            refine ⟨Q_BK239, ?_⟩
                            refine ⟨Q_BK240, ?_⟩
                            refine ⟨Q_BK241, ?_⟩
                            refine ⟨Q_HB, ?_⟩
                            refine ⟨Q_HR247, ?_⟩
                            refine ⟨Q_NB257_256, ?_⟩
                            refine ⟨Q_NB256_257, ?_⟩
                            refine ⟨Q_HO251, ?_⟩
                            refine ⟨Q_HO_240001_e5, ?_⟩
                            refine ⟨Q_HO_242001_e5, ?_⟩
                            refine ⟨Q_BK256, ?_⟩
                            refine ⟨Q_GW256, ?_⟩
                            refine ⟨Q_GE256, ?_⟩
                            refine ⟨Q_NB224_256, ?_⟩
                            refine ⟨Q_NB256_224, ?_⟩
                            refine ⟨Q_NB239_256, ?_⟩
                            refine ⟨Q_NB256_239, ?_⟩
                            refine ⟨Q_NB240_256, ?_⟩
                            refine ⟨Q_NB256_240, ?_⟩
                            refine ⟨Q_NB241_256, ?_⟩
                            refine ⟨Q_NB256_241, ?_⟩
                            refine ⟨Q_BK257, ?_⟩
                            refine ⟨Q_GW257, ?_⟩
                            refine ⟨Q_GE257, ?_⟩
                            refine ⟨Q_NB224_257, ?_⟩
                            refine ⟨Q_NB257_224, ?_⟩
                            refine ⟨Q_NB239_257, ?_⟩
                            refine ⟨Q_NB257_239, ?_⟩
                            refine ⟨Q_NB240_257, ?_⟩
                            refine ⟨Q_NB257_240, ?_⟩
                            refine ⟨Q_NB241_257, ?_⟩
                            refine ⟨Q_NB257_241, ?_⟩
                            refine ⟨Q_BK256_e12, ?_⟩
                            refine ⟨fun h0_ => absurd ((hoff 13 (by kernel_rfl)).symm.trans h0_) (by decide), ?_⟩
                            refine ⟨Q_X5_, ?_⟩
                            refine ⟨Q_X6_, ?_⟩
                            refine ⟨Q_X7_, ?_⟩
                            refine ⟨Q_X10_, ?_⟩
                            exact Q_X11_
                          refine steps_cons ?_ ?_
                          · rintro b a w' ⟨v250, gb256, gb257, m5_, m6_, m7_, m10_, m11_, ha, Q_HO_240001, Q_HO_242001, Q_HO_7, Q_BK224, Q_BK239, Q_BK240, Q_BK241, Q_HB, Q_HR247, Q_NB257_256, Q_NB256_257, Q_HO251, Q_HO_240001_e5, Q_HO_242001_e5, Q_BK256, Q_GW256, Q_GE256, Q_NB224_256, Q_NB256_224, Q_NB239_256, Q_NB256_239, Q_NB240_256, Q_NB256_240, Q_NB241_256, Q_NB256_241, Q_BK257, Q_GW257, Q_GE257, Q_NB224_257, Q_NB257_224, Q_NB239_257, Q_NB257_239, Q_NB240_257, Q_NB257_240, Q_NB241_257, Q_NB257_241, Q_BK256_e12, Q_BK257_e13, Q_X5_, Q_X6_, Q_X7_, Q_X10_, Q_X11_⟩ hb_ hon hoff
                            refine ⟨_, rfl, fun K hK => ?_⟩
                            have e64 : a.tmps[64]? = some (m6_) := by rw [ha]; exact putSel_on (e := (6, 64, m6_)) 3 rfl rfl (hon 6 (by kernel_rfl)) rfl
                            rw [Q_X6_ (hon 6 (by kernel_rfl))] at e64
                            replace ha := Aside0.mk ha
                            have HO_7 := Aside0.mk Q_HO_7
                            have BK224 := Aside0.mk Q_BK224
                            have BK239 := Aside0.mk Q_BK239
                            have BK240 := Aside0.mk Q_BK240
                            have BK241 := Aside0.mk Q_BK241
                            have HB := Aside0.mk Q_HB
                            have HR247 := Aside0.mk Q_HR247
                            have HO251 := Aside0.mk (Q_HO251 (hon 5 (by kernel_rfl)))
                            have HO_240001 := Aside0.mk (Q_HO_240001_e5 (hon 5 (by kernel_rfl)))
                            have HO_242001 := Aside0.mk (Q_HO_242001_e5 (hon 5 (by kernel_rfl)))
                            refine value_ (w1 := w') (v := .int .i64 t255) (by rfl) rfl ?_ ?_
                            · go_simp
                              (try simp only [i64_w])
                              try rfl
                            refine hK.out _ _ ?_
                            refine ⟨v250, ?_⟩
                            refine ⟨gb256, ?_⟩
                            refine ⟨gb257, ?_⟩
                            refine ⟨m5_, ?_⟩
                            refine ⟨m6_, ?_⟩
                            refine ⟨m7_, ?_⟩
                            refine ⟨m10_, ?_⟩
                            refine ⟨m11_, ?_⟩
                            refine ⟨(by rw [ha.out]; exact putSel_upk 6 hb_ rfl rfl rfl), ?_⟩
                            refine ⟨fun h0_ => absurd ((hon 5 (by kernel_rfl)).symm.trans h0_) (by decide), ?_⟩
                            refine ⟨fun h0_ => absurd ((hon 5 (by kernel_rfl)).symm.trans h0_) (by decide), ?_⟩
                            refine ⟨Q_HO_7, ?_⟩
                            refine ⟨Q_BK224, ?_⟩
                            refine ⟨Q_BK239, ?_⟩
                            refine ⟨Q_BK240, ?_⟩
                            refine ⟨Q_BK241, ?_⟩
                            refine ⟨Q_HB, ?_⟩
                            refine ⟨Q_HR247, ?_⟩
                            refine ⟨Q_NB257_256, ?_⟩
                            refine ⟨Q_NB256_257, ?_⟩
                            refine ⟨Q_HO251, ?_⟩
                            refine ⟨Q_HO_240001_e5, ?_⟩
                            refine ⟨Q_HO_242001_e5, ?_⟩
                            refine ⟨Q_BK256, ?_⟩
                            refine ⟨Q_GW256, ?_⟩
                            refine ⟨Q_GE256, ?_⟩
                            refine ⟨Q_NB224_256, ?_⟩
                            refine ⟨Q_NB256_224, ?_⟩
                            refine ⟨Q_NB239_256, ?_⟩
                            refine ⟨Q_NB256_239, ?_⟩
                            refine ⟨Q_NB240_256, ?_⟩
                            refine ⟨Q_NB256_240, ?_⟩
                            refine ⟨Q_NB241_256, ?_⟩
                            refine ⟨Q_NB256_241, ?_⟩
                            refine ⟨Q_BK257, ?_⟩
                            refine ⟨Q_GW257, ?_⟩
                            refine ⟨Q_GE257, ?_⟩
                            refine ⟨Q_NB224_257, ?_⟩
                            refine ⟨Q_NB257_224, ?_⟩
                            refine ⟨Q_NB239_257, ?_⟩
                            refine ⟨Q_NB257_239, ?_⟩
                            refine ⟨Q_NB240_257, ?_⟩
                            refine ⟨Q_NB257_240, ?_⟩
                            refine ⟨Q_NB241_257, ?_⟩
                            refine ⟨Q_NB257_241, ?_⟩
                            refine ⟨Q_BK256_e12, ?_⟩
                            refine ⟨Q_BK257_e13, ?_⟩
                            refine ⟨Q_X5_, ?_⟩
                            refine ⟨Q_X6_, ?_⟩
                            refine ⟨Q_X7_, ?_⟩
                            refine ⟨Q_X10_, ?_⟩
                            exact Q_X11_
                          refine steps_cons ?_ ?_
                          · rintro b a w' ⟨v250, gb256, gb257, m5_, m6_, m7_, m10_, m11_, ha, Q_HO_240001, Q_HO_242001, Q_HO_7, Q_BK224, Q_BK239, Q_BK240, Q_BK241, Q_HB, Q_HR247, Q_NB257_256, Q_NB256_257, Q_HO251, Q_HO_240001_e5, Q_HO_242001_e5, Q_BK256, Q_GW256, Q_GE256, Q_NB224_256, Q_NB256_224, Q_NB239_256, Q_NB256_239, Q_NB240_256, Q_NB256_240, Q_NB241_256, Q_NB256_241, Q_BK257, Q_GW257, Q_GE257, Q_NB224_257, Q_NB257_224, Q_NB239_257, Q_NB257_239, Q_NB240_257, Q_NB257_240, Q_NB241_257, Q_NB257_241, Q_BK256_e12, Q_BK257_e13, Q_X5_, Q_X6_, Q_X7_, Q_X10_, Q_X11_⟩ hb_ hon hoff
                            refine ⟨_, rfl, fun K hK => ?_⟩
                            replace ha := Aside0.mk ha
                            have HO_7 := Aside0.mk Q_HO_7
                            have BK224 := Aside0.mk Q_BK224
                            have BK239 := Aside0.mk Q_BK239
                            have BK240 := Aside0.mk Q_BK240
                            have BK241 := Aside0.mk Q_BK241
                            have HB := Aside0.mk Q_HB
                            have HR247 := Aside0.mk Q_HR247
                            refine box_step ?hg (N := 15) ?hd (cs := #[.int .i64 0, .slice none 0 0]) (t := 36) ?hr ?_; (case hd => rfl); (case hg => rfl); (case hr => first | (go_simp; done) | (go_simp; rfl))
                            intro gb256 hg w52 hbox hb
                            have n0_ := Aside0.mk (Kd.R_below (by (with_reducible repeat (first | apply Kd.R_alloc | apply Kd.R_drewN | apply Kd.R_drew)); exact HO_7.out) hb)
                            have n3_ := Aside0.mk (blk_below (g := gb224) (o := .cells #[.int .i64 x225000_1, .int .i64 x225001_1, .int .i64 x225002_1] 23 (0, 0)) (by (with_reducible repeat (first | refine blk_drewN ?_ _ | refine blk_drew ?_ | refine blk_alloc ?_ _)); exact BK224.out) hb)
                            have n4_ := Aside0.mk (blk_below (g := gb239) (o := .cells #[.int .i64 t231, .slice Ao29 t232.length co29] 36 (0, 0)) (by (with_reducible repeat (first | refine blk_drewN ?_ _ | refine blk_drew ?_ | refine blk_alloc ?_ _)); exact BK239.out) hb)
                            have n5_ := Aside0.mk (blk_below (g := gb240) (o := .cells #[.int .i64 t235, .int .i64 t236, .int .i64 t237] 23 (0, 0)) (by (with_reducible repeat (first | refine blk_drewN ?_ _ | refine blk_drew ?_ | refine blk_alloc ?_ _)); exact BK240.out) hb)
                            have n6_ := Aside0.mk (blk_below (g := gb241) (o := .cells #[.int .i64 x242000_1, u242001] 36 (0, 0)) (by (with_reducible repeat (first | refine blk_drewN ?_ _ | refine blk_drew ?_ | refine blk_alloc ?_ _)); exact BK241.out) hb)
                            have n7_ := Aside0.mk (Kd.C_below (by repeat (first | (with_reducible exact HR247.out) | (with_reducible refine Kd.C_alloc ?_ _) | (with_reducible refine Kd.C_drewN ?_ _) | (with_reducible refine Kd.C_drew ?_) | exact HR247.out)) hb)
                            have n8_ := Aside0.mk (below_step (by repeat (first | (with_reducible first | exact HB.out | apply below_alloc | apply pw_below_drewN | apply below_drew1 | refine below_set ?_ GE224.out | refine below_set ?_ GE239.out | refine below_set ?_ GE240.out | refine below_set ?_ GE241.out) | exact HB.out)) hb)
                            have n9_ := Aside0.mk (hbox)
                            have n10_ := Aside0.mk ((by rw [hg]; exact (below_size (by repeat (first | (with_reducible first | exact HB.out | apply below_alloc | apply pw_below_drewN | apply below_drew1 | refine below_set ?_ GE224.out | refine below_set ?_ GE239.out | refine below_set ?_ GE240.out | refine below_set ?_ GE241.out) | exact HB.out))) : w.heap.size ≤ gb256))
                            have n11_ := Aside0.mk ((by rw [hg]; exact (below_size (by repeat (first | (with_reducible first | exact HB.out | apply below_alloc | apply pw_below_drewN | apply below_drew1 | refine below_set ?_ GE224.out | refine below_set ?_ GE239.out | refine below_set ?_ GE240.out | refine below_set ?_ GE241.out) | exact HB.out))) : w.heap.size ≤ gb256))
                            have n12_ := Aside0.mk ((by rw [hg]; exact Nat.ne_of_lt (blk_lt (g := gb224) (o := .cells #[.int .i64 x225000_1, .int .i64 x225001_1, .int .i64 x225002_1] 23 (0, 0)) (by (with_reducible repeat (first | refine blk_drewN ?_ _ | refine blk_drew ?_ | refine blk_alloc ?_ _)); exact BK224.out)) : gb224 ≠ gb256))
                            have n13_ := Aside0.mk ((by rw [hg]; exact Nat.ne_of_gt (blk_lt (g := gb224) (o := .cells #[.int .i64 x225000_1, .int .i64 x225001_1, .int .i64 x225002_1] 23 (0, 0)) (by (with_reducible repeat (first | refine blk_drewN ?_ _ | refine blk_drew ?_ | refine blk_alloc ?_ _)); exact BK224.out)) : gb256 ≠ gb224))
                            have n14_ := Aside0.mk ((by rw [hg]; exact Nat.ne_of_lt (blk_lt (g := gb239) (o := .cells #[.int .i64 t231, .slice Ao29 t232.length co29] 36 (0, 0)) (by (with_reducible repeat (first | refine blk_drewN ?_ _ | refine blk_drew ?_ | refine blk_alloc ?_ _)); exact BK239.out)) : gb239 ≠ gb256))
                            have n15_ := Aside0.mk ((by rw [hg]; exact Nat.ne_of_gt (blk_lt (g := gb239) (o := .cells #[.int .i64 t231, .slice Ao29 t232.length co29] 36 (0, 0)) (by (with_reducible repeat (first | refine blk_drewN ?_ _ | refine blk_drew ?_ | refine blk_alloc ?_ _)); exact BK239.out)) : gb256 ≠ gb239))
                            have n16_ := Aside0.mk ((by rw [hg]; exact Nat.ne_of_lt (blk_lt (g := gb240) (o := .cells #[.int .i64 t235, .int .i64 t236, .int .i64 t237] 23 (0, 0)) (by (with_reducible repeat (first | refine blk_drewN ?_ _ | refine blk_drew ?_ | refine blk_alloc ?_ _)); exact BK240.out)) : gb240 ≠ gb256))
                            have n17_ := Aside0.mk ((by rw [hg]; exact Nat.ne_of_gt (blk_lt (g := gb240) (o := .cells #[.int .i64 t235, .int .i64 t236, .int .i64 t237] 23 (0, 0)) (by (with_reducible repeat (first | refine blk_drewN ?_ _ | refine blk_drew ?_ | refine blk_alloc ?_ _)); exact BK240.out)) : gb256 ≠ gb240))
                            have n18_ := Aside0.mk ((by rw [hg]; exact Nat.ne_of_lt (blk_lt (g := gb241) (o := .cells #[.int .i64 x242000_1, u242001] 36 (0, 0)) (by (with_reducible repeat (first | refine blk_drewN ?_ _ | refine blk_drew ?_ | refine blk_alloc ?_ _)); exact BK241.out)) : gb241 ≠ gb256))
                            have n19_ := Aside0.mk ((by rw [hg]; exact Nat.ne_of_gt (blk_lt (g := gb241) (o := .cells #[.int .i64 x242000_1, u242001] 36 (0, 0)) (by (with_reducible repeat (first | refine blk_drewN ?_ _ | refine blk_drew ?_ | refine blk_alloc ?_ _)); exact BK241.out)) : gb256 ≠ gb241))
                            have z_HO_240001 := fun (h0_ : b 5 = false) => (show Kd.R (Kd.int .i32) 21 w52 w.heap.size (fun k_ => some k_ ≠ (u242001 : Value).ownBlock) (.slice Ao29 t232.length co29) t232 from by first | exact (Kd.R_below (by (with_reducible repeat (first | apply Kd.R_alloc | apply Kd.R_drewN | apply Kd.R_drew)); exact (Q_HO_240001 h0_)) hb) | exact Kd.R_mono (Kd.R_below (by (with_reducible repeat (first | apply Kd.R_alloc | apply Kd.R_drewN | apply Kd.R_drew)); exact (Q_HO_240001 h0_)) hb) (fun _ h_ => by first | trivial | exact h_ | exact h_.1))
                            have z_HO_242001 := fun (h0_ : b 5 = false) => (show Kd.R (Kd.int .i32) 21 w52 w.heap.size (fun k_ => some k_ ≠ (.slice Ao29 t232.length co29 : Value).ownBlock) u242001 x242001_1 from by first | exact (Kd.R_below (by (with_reducible repeat (first | apply Kd.R_alloc | apply Kd.R_drewN | apply Kd.R_drew)); exact (Q_HO_242001 h0_)) hb) | exact Kd.R_mono (Kd.R_below (by (with_reducible repeat (first | apply Kd.R_alloc | apply Kd.R_drewN | apply Kd.R_drew)); exact (Q_HO_242001 h0_)) hb) (fun _ h_ => by first | trivial | exact h_ | exact h_.1))
                            have z_NB257_256 := fun (h0_ : up b 10 10 = true) (h1_ : up b 10 11 = true) => (show gb257 ≠ gb256 from ((by rw [hg]; exact Nat.ne_of_lt (blk_lt (g := gb257) (o := .cells #[.int .i64 0, .int .i64 0, .int .i64 0] 23 (0, 0)) (by (with_reducible repeat (first | refine blk_drewN ?_ _ | refine blk_drew ?_ | refine blk_alloc ?_ _)); exact (Q_BK257 h1_ (hoff 13 (by kernel_rfl))))) : gb257 ≠ gb256)))
                            have z_NB256_257 := fun (h0_ : up b 10 10 = true) (h1_ : up b 10 11 = true) => (show gb256 ≠ gb257 from ((by rw [hg]; exact Nat.ne_of_gt (blk_lt (g := gb257) (o := .cells #[.int .i64 0, .int .i64 0, .int .i64 0] 23 (0, 0)) (by (with_reducible repeat (first | refine blk_drewN ?_ _ | refine blk_drew ?_ | refine blk_alloc ?_ _)); exact (Q_BK257 h1_ (hoff 13 (by kernel_rfl))))) : gb256 ≠ gb257)))
                            have z_HO251 := fun (h0_ : b 5 = true) => (show Kd.R (Kd.int .i32) 21 w52 w.heap.size (fun k_ => some k_ ≠ (.slice Ao29 t232.length co29 : Value).ownBlock ∧ some k_ ≠ (u242001 : Value).ownBlock) v250 t249 from by first | exact (Kd.R_below (by (with_reducible repeat (first | apply Kd.R_alloc | apply Kd.R_drewN | apply Kd.R_drew)); exact (Q_HO251 h0_)) hb) | exact Kd.R_mono (Kd.R_below (by (with_reducible repeat (first | apply Kd.R_alloc | apply Kd.R_drewN | apply Kd.R_drew)); exact (Q_HO251 h0_)) hb) (fun _ h_ => by first | trivial | exact h_ | exact h_.1))
                            have z_HO_240001_e5 := fun (h0_ : b 5 = true) => (show Kd.R (Kd.int .i32) 21 w52 w.heap.size (fun k_ => some k_ ≠ (v250 : Value).ownBlock ∧ some k_ ≠ (u242001 : Value).ownBlock) (.slice Ao29 t232.length co29) t232 from by first | exact (Kd.R_below (by (with_reducible repeat (first | apply Kd.R_alloc | apply Kd.R_drewN | apply Kd.R_drew)); exact (Q_HO_240001_e5 h0_)) hb) | exact Kd.R_mono (Kd.R_below (by (with_reducible repeat (first | apply Kd.R_alloc | apply Kd.R_drewN | apply Kd.R_drew)); exact (Q_HO_240001_e5 h0_)) hb) (fun _ h_ => by first | trivial | exact h_ | exact h_.1))
                            have z_HO_242001_e5 := fun (h0_ : b 5 = true) => (show Kd.R (Kd.int .i32) 21 w52 w.heap.size (fun k_ => some k_ ≠ (v250 : Value).ownBlock ∧ some k_ ≠ (.slice Ao29 t232.length co29 : Value).ownBlock) u242001 x242001_1 from by first | exact (Kd.R_below (by (with_reducible repeat (first | apply Kd.R_alloc | apply Kd.R_drewN | apply Kd.R_drew)); exact (Q_HO_242001_e5 h0_)) hb) | exact Kd.R_mono (Kd.R_below (by (with_reducible repeat (first | apply Kd.R_alloc | apply Kd.R_drewN | apply Kd.R_drew)); exact (Q_HO_242001_e5 h0_)) hb) (fun _ h_ => by first | trivial | exact h_ | exact h_.1))
                            have z_BK257 := fun (h0_ : b 11 = true) (h1_ : b 13 = false) => (show w52.heap[gb257]? = some (.cells #[.int .i64 0, .int .i64 0, .int .i64 0] 23 (0, 0)) from by first | exact (blk_below (g := gb257) (o := .cells #[.int .i64 0, .int .i64 0, .int .i64 0] 23 (0, 0)) (by (with_reducible repeat (first | refine blk_drewN ?_ _ | refine blk_drew ?_ | refine blk_alloc ?_ _)); exact (Q_BK257 h0_ h1_)) hb))
                            clear HO_7
                            clear BK224
                            clear BK239
                            clear BK240
                            clear BK241
                            clear HR247
                            clear HB
                            have HO_7 := n0_
                            have BK224 := n3_
                            have BK239 := n4_
                            have BK240 := n5_
                            have BK241 := n6_
                            have HR247 := n7_
                            have HB := n8_
                            have BK256 := n9_
                            have GW256 := n10_
                            have GE256 := n11_
                            have NB224_256 := n12_
                            have NB256_224 := n13_
                            have NB239_256 := n14_
                            have NB256_239 := n15_
                            have NB240_256 := n16_
                            have NB256_240 := n17_
                            have NB241_256 := n18_
                            have NB256_241 := n19_
                            clear n0_ n3_ n4_ n5_ n6_ n7_ n8_ n9_ n10_ n11_ n12_ n13_ n14_ n15_ n16_ n17_ n18_ n19_
                            clear hb hbox hg
                            refine hK.out _ _ ?_
                            refine ⟨v250, ?_⟩
                            refine ⟨gb256, ?_⟩
                            refine ⟨gb257, ?_⟩
                            refine ⟨m5_, ?_⟩
                            refine ⟨m6_, ?_⟩
                            refine ⟨m7_, ?_⟩
                            refine ⟨(.pointer (some ⟨gb256, 0, none⟩)), ?_⟩
                            refine ⟨m11_, ?_⟩
                            refine ⟨(by rw [ha.out]; exact putSel_upk 7 hb_ rfl rfl rfl), ?_⟩
                            refine ⟨z_HO_240001, ?_⟩
                            refine ⟨z_HO_242001, ?_⟩
                            refine ⟨(by (with_reducible repeat (first | apply Kd.R_alloc | apply Kd.R_drewN | apply Kd.R_drew)); exact HO_7.out), ?_⟩
                            refine ⟨(by (with_reducible repeat (first | refine blk_drewN ?_ _ | refine blk_drew ?_ | refine blk_alloc ?_ _)); exact BK224.out), ?_⟩
                            refine ⟨(by (with_reducible repeat (first | refine blk_drewN ?_ _ | refine blk_drew ?_ | refine blk_alloc ?_ _)); exact BK239.out), ?_⟩
                            refine ⟨(by (with_reducible repeat (first | refine blk_drewN ?_ _ | refine blk_drew ?_ | refine blk_alloc ?_ _)); exact BK240.out), ?_⟩
                            refine ⟨(by (with_reducible repeat (first | refine blk_drewN ?_ _ | refine blk_drew ?_ | refine blk_alloc ?_ _)); exact BK241.out), ?_⟩
                            refine ⟨(by repeat (first | (with_reducible first | exact HB.out | apply below_alloc | apply pw_below_drewN | apply below_drew1 | refine below_set ?_ GE224.out | refine below_set ?_ GE239.out | refine below_set ?_ GE240.out | refine below_set ?_ GE241.out | refine below_set ?_ GE256.out) | exact HB.out)), ?_⟩
                            refine ⟨(by repeat (first | (with_reducible exact HR247.out) | (with_reducible refine Kd.C_alloc ?_ _) | (with_reducible refine Kd.C_drewN ?_ _) | (with_reducible refine Kd.C_drew ?_) | exact HR247.out)), ?_⟩
                            refine ⟨z_NB257_256, ?_⟩
                            refine ⟨z_NB256_257, ?_⟩
                            refine ⟨z_HO251, ?_⟩
                            refine ⟨z_HO_240001_e5, ?_⟩
                            refine ⟨z_HO_242001_e5, ?_⟩
                            refine ⟨fun _ _ => (by (with_reducible repeat (first | refine blk_drewN ?_ _ | refine blk_drew ?_ | refine blk_alloc ?_ _)); exact BK256.out), ?_⟩
                            refine ⟨fun _ => GW256.out, ?_⟩
                            refine ⟨fun _ => GE256.out, ?_⟩
                            refine ⟨fun _ => NB224_256.out, ?_⟩
                            refine ⟨fun _ => NB256_224.out, ?_⟩
                            refine ⟨fun _ => NB239_256.out, ?_⟩
                            refine ⟨fun _ => NB256_239.out, ?_⟩
                            refine ⟨fun _ => NB240_256.out, ?_⟩
                            refine ⟨fun _ => NB256_240.out, ?_⟩
                            refine ⟨fun _ => NB241_256.out, ?_⟩
                            refine ⟨fun _ => NB256_241.out, ?_⟩
                            refine ⟨z_BK257, ?_⟩
                            refine ⟨Q_GW257, ?_⟩
                            refine ⟨Q_GE257, ?_⟩
                            refine ⟨Q_NB224_257, ?_⟩
                            refine ⟨Q_NB257_224, ?_⟩
                            refine ⟨Q_NB239_257, ?_⟩
                            refine ⟨Q_NB257_239, ?_⟩
                            refine ⟨Q_NB240_257, ?_⟩
                            refine ⟨Q_NB257_240, ?_⟩
                            refine ⟨Q_NB241_257, ?_⟩
                            refine ⟨Q_NB257_241, ?_⟩
                            refine ⟨fun h0_ => absurd ((hoff 12 (by kernel_rfl)).symm.trans h0_) (by decide), ?_⟩
                            refine ⟨fun h0_ => absurd ((hoff 13 (by kernel_rfl)).symm.trans h0_) (by decide), ?_⟩
                            refine ⟨Q_X5_, ?_⟩
                            refine ⟨Q_X6_, ?_⟩
                            refine ⟨Q_X7_, ?_⟩
                            refine ⟨fun _ => rfl, ?_⟩
                            exact Q_X11_
                          refine steps_cons ?_ ?_
                          · rintro b a w' ⟨v250, gb256, gb257, m5_, m6_, m7_, m10_, m11_, ha, Q_HO_240001, Q_HO_242001, Q_HO_7, Q_BK224, Q_BK239, Q_BK240, Q_BK241, Q_HB, Q_HR247, Q_NB257_256, Q_NB256_257, Q_HO251, Q_HO_240001_e5, Q_HO_242001_e5, Q_BK256, Q_GW256, Q_GE256, Q_NB224_256, Q_NB256_224, Q_NB239_256, Q_NB256_239, Q_NB240_256, Q_NB256_240, Q_NB241_256, Q_NB256_241, Q_BK257, Q_GW257, Q_GE257, Q_NB224_257, Q_NB257_224, Q_NB239_257, Q_NB257_239, Q_NB240_257, Q_NB257_240, Q_NB241_257, Q_NB257_241, Q_BK256_e12, Q_BK257_e13, Q_X5_, Q_X6_, Q_X7_, Q_X10_, Q_X11_⟩ hb_ hon hoff
                            refine ⟨_, rfl, fun K hK => ?_⟩
                            replace ha := Aside0.mk ha
                            have HO_7 := Aside0.mk Q_HO_7
                            have BK224 := Aside0.mk Q_BK224
                            have BK239 := Aside0.mk Q_BK239
                            have BK240 := Aside0.mk Q_BK240
                            have BK241 := Aside0.mk Q_BK241
                            have HB := Aside0.mk Q_HB
                            have HR247 := Aside0.mk Q_HR247
                            refine box_step ?hg (N := 16) ?hd (cs := #[.int .i64 0, .int .i64 0, .int .i64 0]) (t := 23) ?hr ?_; (case hd => rfl); (case hg => rfl); (case hr => first | (go_simp; done) | (go_simp; rfl))
                            intro gb257 hg w52 hbox hb
                            have n0_ := Aside0.mk (Kd.R_below (by (with_reducible repeat (first | apply Kd.R_alloc | apply Kd.R_drewN | apply Kd.R_drew)); exact HO_7.out) hb)
                            have n3_ := Aside0.mk (blk_below (g := gb224) (o := .cells #[.int .i64 x225000_1, .int .i64 x225001_1, .int .i64 x225002_1] 23 (0, 0)) (by (with_reducible repeat (first | refine blk_drewN ?_ _ | refine blk_drew ?_ | refine blk_alloc ?_ _)); exact BK224.out) hb)
                            have n4_ := Aside0.mk (blk_below (g := gb239) (o := .cells #[.int .i64 t231, .slice Ao29 t232.length co29] 36 (0, 0)) (by (with_reducible repeat (first | refine blk_drewN ?_ _ | refine blk_drew ?_ | refine blk_alloc ?_ _)); exact BK239.out) hb)
                            have n5_ := Aside0.mk (blk_below (g := gb240) (o := .cells #[.int .i64 t235, .int .i64 t236, .int .i64 t237] 23 (0, 0)) (by (with_reducible repeat (first | refine blk_drewN ?_ _ | refine blk_drew ?_ | refine blk_alloc ?_ _)); exact BK240.out) hb)
                            have n6_ := Aside0.mk (blk_below (g := gb241) (o := .cells #[.int .i64 x242000_1, u242001] 36 (0, 0)) (by (with_reducible repeat (first | refine blk_drewN ?_ _ | refine blk_drew ?_ | refine blk_alloc ?_ _)); exact BK241.out) hb)
                            have n7_ := Aside0.mk (Kd.C_below (by repeat (first | (with_reducible exact HR247.out) | (with_reducible refine Kd.C_alloc ?_ _) | (with_reducible refine Kd.C_drewN ?_ _) | (with_reducible refine Kd.C_drew ?_) | exact HR247.out)) hb)
                            have n8_ := Aside0.mk (below_step (by repeat (first | (with_reducible first | exact HB.out | apply below_alloc | apply pw_below_drewN | apply below_drew1 | refine below_set ?_ GE224.out | refine below_set ?_ GE239.out | refine below_set ?_ GE240.out | refine below_set ?_ GE241.out) | exact HB.out)) hb)
                            have n9_ := Aside0.mk (hbox)
                            have n10_ := Aside0.mk ((by rw [hg]; exact (below_size (by repeat (first | (with_reducible first | exact HB.out | apply below_alloc | apply pw_below_drewN | apply below_drew1 | refine below_set ?_ GE224.out | refine below_set ?_ GE239.out | refine below_set ?_ GE240.out | refine below_set ?_ GE241.out) | exact HB.out))) : w.heap.size ≤ gb257))
                            have n11_ := Aside0.mk ((by rw [hg]; exact (below_size (by repeat (first | (with_reducible first | exact HB.out | apply below_alloc | apply pw_below_drewN | apply below_drew1 | refine below_set ?_ GE224.out | refine below_set ?_ GE239.out | refine below_set ?_ GE240.out | refine below_set ?_ GE241.out) | exact HB.out))) : w.heap.size ≤ gb257))
                            have n12_ := Aside0.mk ((by rw [hg]; exact Nat.ne_of_lt (blk_lt (g := gb224) (o := .cells #[.int .i64 x225000_1, .int .i64 x225001_1, .int .i64 x225002_1] 23 (0, 0)) (by (with_reducible repeat (first | refine blk_drewN ?_ _ | refine blk_drew ?_ | refine blk_alloc ?_ _)); exact BK224.out)) : gb224 ≠ gb257))
                            have n13_ := Aside0.mk ((by rw [hg]; exact Nat.ne_of_gt (blk_lt (g := gb224) (o := .cells #[.int .i64 x225000_1, .int .i64 x225001_1, .int .i64 x225002_1] 23 (0, 0)) (by (with_reducible repeat (first | refine blk_drewN ?_ _ | refine blk_drew ?_ | refine blk_alloc ?_ _)); exact BK224.out)) : gb257 ≠ gb224))
                            have n14_ := Aside0.mk ((by rw [hg]; exact Nat.ne_of_lt (blk_lt (g := gb239) (o := .cells #[.int .i64 t231, .slice Ao29 t232.length co29] 36 (0, 0)) (by (with_reducible repeat (first | refine blk_drewN ?_ _ | refine blk_drew ?_ | refine blk_alloc ?_ _)); exact BK239.out)) : gb239 ≠ gb257))
                            have n15_ := Aside0.mk ((by rw [hg]; exact Nat.ne_of_gt (blk_lt (g := gb239) (o := .cells #[.int .i64 t231, .slice Ao29 t232.length co29] 36 (0, 0)) (by (with_reducible repeat (first | refine blk_drewN ?_ _ | refine blk_drew ?_ | refine blk_alloc ?_ _)); exact BK239.out)) : gb257 ≠ gb239))
                            have n16_ := Aside0.mk ((by rw [hg]; exact Nat.ne_of_lt (blk_lt (g := gb240) (o := .cells #[.int .i64 t235, .int .i64 t236, .int .i64 t237] 23 (0, 0)) (by (with_reducible repeat (first | refine blk_drewN ?_ _ | refine blk_drew ?_ | refine blk_alloc ?_ _)); exact BK240.out)) : gb240 ≠ gb257))
                            have n17_ := Aside0.mk ((by rw [hg]; exact Nat.ne_of_gt (blk_lt (g := gb240) (o := .cells #[.int .i64 t235, .int .i64 t236, .int .i64 t237] 23 (0, 0)) (by (with_reducible repeat (first | refine blk_drewN ?_ _ | refine blk_drew ?_ | refine blk_alloc ?_ _)); exact BK240.out)) : gb257 ≠ gb240))
                            have n18_ := Aside0.mk ((by rw [hg]; exact Nat.ne_of_lt (blk_lt (g := gb241) (o := .cells #[.int .i64 x242000_1, u242001] 36 (0, 0)) (by (with_reducible repeat (first | refine blk_drewN ?_ _ | refine blk_drew ?_ | refine blk_alloc ?_ _)); exact BK241.out)) : gb241 ≠ gb257))
                            have n19_ := Aside0.mk ((by rw [hg]; exact Nat.ne_of_gt (blk_lt (g := gb241) (o := .cells #[.int .i64 x242000_1, u242001] 36 (0, 0)) (by (with_reducible repeat (first | refine blk_drewN ?_ _ | refine blk_drew ?_ | refine blk_alloc ?_ _)); exact BK241.out)) : gb257 ≠ gb241))
                            have z_HO_240001 := fun (h0_ : b 5 = false) => (show Kd.R (Kd.int .i32) 21 w52 w.heap.size (fun k_ => some k_ ≠ (u242001 : Value).ownBlock) (.slice Ao29 t232.length co29) t232 from by first | exact (Kd.R_below (by (with_reducible repeat (first | apply Kd.R_alloc | apply Kd.R_drewN | apply Kd.R_drew)); exact (Q_HO_240001 h0_)) hb) | exact Kd.R_mono (Kd.R_below (by (with_reducible repeat (first | apply Kd.R_alloc | apply Kd.R_drewN | apply Kd.R_drew)); exact (Q_HO_240001 h0_)) hb) (fun _ h_ => by first | trivial | exact h_ | exact h_.1))
                            have z_HO_242001 := fun (h0_ : b 5 = false) => (show Kd.R (Kd.int .i32) 21 w52 w.heap.size (fun k_ => some k_ ≠ (.slice Ao29 t232.length co29 : Value).ownBlock) u242001 x242001_1 from by first | exact (Kd.R_below (by (with_reducible repeat (first | apply Kd.R_alloc | apply Kd.R_drewN | apply Kd.R_drew)); exact (Q_HO_242001 h0_)) hb) | exact Kd.R_mono (Kd.R_below (by (with_reducible repeat (first | apply Kd.R_alloc | apply Kd.R_drewN | apply Kd.R_drew)); exact (Q_HO_242001 h0_)) hb) (fun _ h_ => by first | trivial | exact h_ | exact h_.1))
                            have z_NB257_256 := fun (h0_ : up b 11 10 = true) (h1_ : up b 11 11 = true) => (show gb257 ≠ gb256 from ((by rw [hg]; exact Nat.ne_of_gt (blk_lt (g := gb256) (o := .cells #[.int .i64 0, .slice none 0 0] 36 (0, 0)) (by (with_reducible repeat (first | refine blk_drewN ?_ _ | refine blk_drew ?_ | refine blk_alloc ?_ _)); exact (Q_BK256 h0_ (hoff 12 (by kernel_rfl))))) : gb257 ≠ gb256)))
                            have z_NB256_257 := fun (h0_ : up b 11 10 = true) (h1_ : up b 11 11 = true) => (show gb256 ≠ gb257 from ((by rw [hg]; exact Nat.ne_of_lt (blk_lt (g := gb256) (o := .cells #[.int .i64 0, .slice none 0 0] 36 (0, 0)) (by (with_reducible repeat (first | refine blk_drewN ?_ _ | refine blk_drew ?_ | refine blk_alloc ?_ _)); exact (Q_BK256 h0_ (hoff 12 (by kernel_rfl))))) : gb256 ≠ gb257)))
                            have z_HO251 := fun (h0_ : b 5 = true) => (show Kd.R (Kd.int .i32) 21 w52 w.heap.size (fun k_ => some k_ ≠ (.slice Ao29 t232.length co29 : Value).ownBlock ∧ some k_ ≠ (u242001 : Value).ownBlock) v250 t249 from by first | exact (Kd.R_below (by (with_reducible repeat (first | apply Kd.R_alloc | apply Kd.R_drewN | apply Kd.R_drew)); exact (Q_HO251 h0_)) hb) | exact Kd.R_mono (Kd.R_below (by (with_reducible repeat (first | apply Kd.R_alloc | apply Kd.R_drewN | apply Kd.R_drew)); exact (Q_HO251 h0_)) hb) (fun _ h_ => by first | trivial | exact h_ | exact h_.1))
                            have z_HO_240001_e5 := fun (h0_ : b 5 = true) => (show Kd.R (Kd.int .i32) 21 w52 w.heap.size (fun k_ => some k_ ≠ (v250 : Value).ownBlock ∧ some k_ ≠ (u242001 : Value).ownBlock) (.slice Ao29 t232.length co29) t232 from by first | exact (Kd.R_below (by (with_reducible repeat (first | apply Kd.R_alloc | apply Kd.R_drewN | apply Kd.R_drew)); exact (Q_HO_240001_e5 h0_)) hb) | exact Kd.R_mono (Kd.R_below (by (with_reducible repeat (first | apply Kd.R_alloc | apply Kd.R_drewN | apply Kd.R_drew)); exact (Q_HO_240001_e5 h0_)) hb) (fun _ h_ => by first | trivial | exact h_ | exact h_.1))
                            have z_HO_242001_e5 := fun (h0_ : b 5 = true) => (show Kd.R (Kd.int .i32) 21 w52 w.heap.size (fun k_ => some k_ ≠ (v250 : Value).ownBlock ∧ some k_ ≠ (.slice Ao29 t232.length co29 : Value).ownBlock) u242001 x242001_1 from by first | exact (Kd.R_below (by (with_reducible repeat (first | apply Kd.R_alloc | apply Kd.R_drewN | apply Kd.R_drew)); exact (Q_HO_242001_e5 h0_)) hb) | exact Kd.R_mono (Kd.R_below (by (with_reducible repeat (first | apply Kd.R_alloc | apply Kd.R_drewN | apply Kd.R_drew)); exact (Q_HO_242001_e5 h0_)) hb) (fun _ h_ => by first | trivial | exact h_ | exact h_.1))
                            have z_BK256 := fun (h0_ : b 10 = true) (h1_ : b 12 = false) => (show w52.heap[gb256]? = some (.cells #[.int .i64 0, .slice none 0 0] 36 (0, 0)) from by first | exact (blk_below (g := gb256) (o := .cells #[.int .i64 0, .slice none 0 0] 36 (0, 0)) (by (with_reducible repeat (first | refine blk_drewN ?_ _ | refine blk_drew ?_ | refine blk_alloc ?_ _)); exact (Q_BK256 h0_ h1_)) hb))
                            clear HO_7
                            clear BK224
                            clear BK239
                            clear BK240
                            clear BK241
                            clear HR247
                            clear HB
                            have HO_7 := n0_
                            have BK224 := n3_
                            have BK239 := n4_
                            have BK240 := n5_
                            have BK241 := n6_
                            have HR247 := n7_
                            have HB := n8_
                            have BK257 := n9_
                            have GW257 := n10_
                            have GE257 := n11_
                            have NB224_257 := n12_
                            have NB257_224 := n13_
                            have NB239_257 := n14_
                            have NB257_239 := n15_
                            have NB240_257 := n16_
                            have NB257_240 := n17_
                            have NB241_257 := n18_
                            have NB257_241 := n19_
                            clear n0_ n3_ n4_ n5_ n6_ n7_ n8_ n9_ n10_ n11_ n12_ n13_ n14_ n15_ n16_ n17_ n18_ n19_
                            clear hb hbox hg
                            refine hK.out _ _ ?_
                            refine ⟨v250, ?_⟩
                            refine ⟨gb256, ?_⟩
                            refine ⟨gb257, ?_⟩
                            refine ⟨m5_, ?_⟩
                            refine ⟨m6_, ?_⟩
                            refine ⟨m7_, ?_⟩
                            refine ⟨m10_, ?_⟩
                            refine ⟨(.pointer (some ⟨gb257, 0, none⟩)), ?_⟩
                            refine ⟨(by rw [ha.out]; exact putSel_upk 8 hb_ rfl rfl rfl), ?_⟩
                            refine ⟨z_HO_240001, ?_⟩
                            refine ⟨z_HO_242001, ?_⟩
                            refine ⟨(by (with_reducible repeat (first | apply Kd.R_alloc | apply Kd.R_drewN | apply Kd.R_drew)); exact HO_7.out), ?_⟩
                            refine ⟨(by (with_reducible repeat (first | refine blk_drewN ?_ _ | refine blk_drew ?_ | refine blk_alloc ?_ _)); exact BK224.out), ?_⟩
                            refine ⟨(by (with_reducible repeat (first | refine blk_drewN ?_ _ | refine blk_drew ?_ | refine blk_alloc ?_ _)); exact BK239.out), ?_⟩
                            refine ⟨(by (with_reducible repeat (first | refine blk_drewN ?_ _ | refine blk_drew ?_ | refine blk_alloc ?_ _)); exact BK240.out), ?_⟩
                            refine ⟨(by (with_reducible repeat (first | refine blk_drewN ?_ _ | refine blk_drew ?_ | refine blk_alloc ?_ _)); exact BK241.out), ?_⟩
                            refine ⟨(by repeat (first | (with_reducible first | exact HB.out | apply below_alloc | apply pw_below_drewN | apply below_drew1 | refine below_set ?_ GE224.out | refine below_set ?_ GE239.out | refine below_set ?_ GE240.out | refine below_set ?_ GE241.out | refine below_set ?_ GE257.out) | exact HB.out)), ?_⟩
                            refine ⟨(by repeat (first | (with_reducible exact HR247.out) | (with_reducible refine Kd.C_alloc ?_ _) | (with_reducible refine Kd.C_drewN ?_ _) | (with_reducible refine Kd.C_drew ?_) | exact HR247.out)), ?_⟩
                            refine ⟨z_NB257_256, ?_⟩
                            refine ⟨z_NB256_257, ?_⟩
                            refine ⟨z_HO251, ?_⟩
                            refine ⟨z_HO_240001_e5, ?_⟩
                            refine ⟨z_HO_242001_e5, ?_⟩
                            refine ⟨z_BK256, ?_⟩
                            refine ⟨Q_GW256, ?_⟩
                            refine ⟨Q_GE256, ?_⟩
                            refine ⟨Q_NB224_256, ?_⟩
                            refine ⟨Q_NB256_224, ?_⟩
                            refine ⟨Q_NB239_256, ?_⟩
                            refine ⟨Q_NB256_239, ?_⟩
                            refine ⟨Q_NB240_256, ?_⟩
                            refine ⟨Q_NB256_240, ?_⟩
                            refine ⟨Q_NB241_256, ?_⟩
                            refine ⟨Q_NB256_241, ?_⟩
                            refine ⟨fun _ _ => (by (with_reducible repeat (first | refine blk_drewN ?_ _ | refine blk_drew ?_ | refine blk_alloc ?_ _)); exact BK257.out), ?_⟩
                            refine ⟨fun _ => GW257.out, ?_⟩
                            refine ⟨fun _ => GE257.out, ?_⟩
                            refine ⟨fun _ => NB224_257.out, ?_⟩
                            refine ⟨fun _ => NB257_224.out, ?_⟩
                            refine ⟨fun _ => NB239_257.out, ?_⟩
                            refine ⟨fun _ => NB257_239.out, ?_⟩
                            refine ⟨fun _ => NB240_257.out, ?_⟩
                            refine ⟨fun _ => NB257_240.out, ?_⟩
                            refine ⟨fun _ => NB241_257.out, ?_⟩
                            refine ⟨fun _ => NB257_241.out, ?_⟩
                            refine ⟨fun h0_ => absurd ((hoff 12 (by kernel_rfl)).symm.trans h0_) (by decide), ?_⟩
                            refine ⟨fun h0_ => absurd ((hoff 13 (by kernel_rfl)).symm.trans h0_) (by decide), ?_⟩
                            refine ⟨Q_X5_, ?_⟩
                            refine ⟨Q_X6_, ?_⟩
                            refine ⟨Q_X7_, ?_⟩
                            refine ⟨Q_X10_, ?_⟩
                            exact fun _ => rfl
                          refine steps_cons ?_ ?_
                          · rintro b a w' ⟨v250, gb256, gb257, m5_, m6_, m7_, m10_, m11_, ha, Q_HO_240001, Q_HO_242001, Q_HO_7, Q_BK224, Q_BK239, Q_BK240, Q_BK241, Q_HB, Q_HR247, Q_NB257_256, Q_NB256_257, Q_HO251, Q_HO_240001_e5, Q_HO_242001_e5, Q_BK256, Q_GW256, Q_GE256, Q_NB224_256, Q_NB256_224, Q_NB239_256, Q_NB256_239, Q_NB240_256, Q_NB256_240, Q_NB241_256, Q_NB256_241, Q_BK257, Q_GW257, Q_GE257, Q_NB224_257, Q_NB257_224, Q_NB239_257, Q_NB257_239, Q_NB240_257, Q_NB257_240, Q_NB241_257, Q_NB257_241, Q_BK256_e12, Q_BK257_e13, Q_X5_, Q_X6_, Q_X7_, Q_X10_, Q_X11_⟩ hb_ hon hoff
                            refine ⟨_, rfl, fun K hK => ?_⟩
                            have e15 : a.tmps[15]? = some (m10_) := by rw [ha]; exact putSel_on (e := (10, 15, m10_)) 7 rfl rfl (hon 10 (by kernel_rfl)) rfl
                            rw [Q_X10_ (hon 10 (by kernel_rfl))] at e15
                            have e71 : a.tmps[71]? = some (m7_) := by rw [ha]; exact putSel_on (e := (7, 71, m7_)) 4 rfl rfl (hon 7 (by kernel_rfl)) rfl
                            rw [Q_X7_ (hon 7 (by kernel_rfl))] at e71
                            replace ha := Aside0.mk ha
                            have HO_7 := Aside0.mk Q_HO_7
                            have BK224 := Aside0.mk Q_BK224
                            have BK239 := Aside0.mk Q_BK239
                            have BK240 := Aside0.mk Q_BK240
                            have BK241 := Aside0.mk Q_BK241
                            have HB := Aside0.mk Q_HB
                            have HR247 := Aside0.mk Q_HR247
                            have NB257_256 := Aside0.mk (Q_NB257_256 (hon 10 (by kernel_rfl)) (hon 11 (by kernel_rfl)))
                            have NB256_257 := Aside0.mk (Q_NB256_257 (hon 10 (by kernel_rfl)) (hon 11 (by kernel_rfl)))
                            have HO251 := Aside0.mk (Q_HO251 (hon 5 (by kernel_rfl)))
                            have HO_240001 := Aside0.mk (Q_HO_240001_e5 (hon 5 (by kernel_rfl)))
                            have HO_242001 := Aside0.mk (Q_HO_242001_e5 (hon 5 (by kernel_rfl)))
                            have BK256 := Aside0.mk (Q_BK256 (hon 10 (by kernel_rfl)) hb_)
                            have GW256 := Aside0.mk (Q_GW256 (hon 10 (by kernel_rfl)))
                            have GE256 := Aside0.mk (Q_GE256 (hon 10 (by kernel_rfl)))
                            have NB224_256 := Aside0.mk (Q_NB224_256 (hon 10 (by kernel_rfl)))
                            have NB256_224 := Aside0.mk (Q_NB256_224 (hon 10 (by kernel_rfl)))
                            have NB239_256 := Aside0.mk (Q_NB239_256 (hon 10 (by kernel_rfl)))
                            have NB256_239 := Aside0.mk (Q_NB256_239 (hon 10 (by kernel_rfl)))
                            have NB240_256 := Aside0.mk (Q_NB240_256 (hon 10 (by kernel_rfl)))
                            have NB256_240 := Aside0.mk (Q_NB256_240 (hon 10 (by kernel_rfl)))
                            have NB241_256 := Aside0.mk (Q_NB241_256 (hon 10 (by kernel_rfl)))
                            have NB256_241 := Aside0.mk (Q_NB256_241 (hon 10 (by kernel_rfl)))
                            have BK257 := Aside0.mk (Q_BK257 (hon 11 (by kernel_rfl)) (hoff 13 (by kernel_rfl)))
                            have GW257 := Aside0.mk (Q_GW257 (hon 11 (by kernel_rfl)))
                            have GE257 := Aside0.mk (Q_GE257 (hon 11 (by kernel_rfl)))
                            have NB224_257 := Aside0.mk (Q_NB224_257 (hon 11 (by kernel_rfl)))
                            have NB257_224 := Aside0.mk (Q_NB257_224 (hon 11 (by kernel_rfl)))
                            have NB239_257 := Aside0.mk (Q_NB239_257 (hon 11 (by kernel_rfl)))
                            have NB257_239 := Aside0.mk (Q_NB257_239 (hon 11 (by kernel_rfl)))
                            have NB240_257 := Aside0.mk (Q_NB240_257 (hon 11 (by kernel_rfl)))
                            have NB257_240 := Aside0.mk (Q_NB257_240 (hon 11 (by kernel_rfl)))
                            have NB241_257 := Aside0.mk (Q_NB241_257 (hon 11 (by kernel_rfl)))
                            have NB257_241 := Aside0.mk (Q_NB257_241 (hon 11 (by kernel_rfl)))
                            obtain ⟨Ao57, co57, eo57⟩ := Kd.R_slice HO251.out
                            (first | subst eo57 | (injection eo57 with f1_ f2_ f3_; have f4_ := f1_.symm; have f5_ := f3_.symm; clear f1_ f2_ f3_; subst f4_; subst f5_))
                            have hs56 : w'.cell? ⟨gb256, 0, none⟩ = some (.int .i64 0) := (blk_cell BK256.out 0).trans rfl
                            have hfs56 := blk_frozen BK256.out 0
                            have hns56_0 := NB224_256.out
                            have hns56_1 := NB239_256.out
                            have hns56_2 := NB240_256.out
                            have hns56_3 := NB241_256.out
                            have hns56_5 := NB257_256.out
                            have hms56_0 := NB256_224.out
                            have hms56_1 := NB256_239.out
                            have hms56_2 := NB256_240.out
                            have hms56_3 := NB256_241.out
                            have hms56_5 := NB256_257.out
                            have hs58 : w'.cell? ⟨gb256, 1, none⟩ = some (.slice none 0 0) := (blk_cell BK256.out 1).trans rfl
                            have hfs58 := blk_frozen BK256.out 1
                            have hns58_0 := NB224_256.out
                            have hns58_1 := NB239_256.out
                            have hns58_2 := NB240_256.out
                            have hns58_3 := NB241_256.out
                            have hns58_5 := NB257_256.out
                            have hms58_0 := NB256_224.out
                            have hms58_1 := NB256_239.out
                            have hms58_2 := NB256_240.out
                            have hms58_3 := NB256_241.out
                            have hms58_5 := NB256_257.out
                            refine skip_ (w1 := ?_) (by rfl) rfl ?_ ?_
                            rotate_left
                            · go_simp
                              rfl
                            refine hK.out _ _ ?_
                            refine ⟨.slice Ao57 t249.length co57, ?_⟩
                            refine ⟨gb256, ?_⟩
                            refine ⟨gb257, ?_⟩
                            refine ⟨m5_, ?_⟩
                            refine ⟨m6_, ?_⟩
                            refine ⟨m7_, ?_⟩
                            refine ⟨m10_, ?_⟩
                            refine ⟨m11_, ?_⟩
                            refine ⟨(by rw [ha.out]; exact putSel_none (v := undef) rfl), ?_⟩
                            refine ⟨fun h0_ => absurd ((hon 5 (by kernel_rfl)).symm.trans h0_) (by decide), ?_⟩
                            refine ⟨fun h0_ => absurd ((hon 5 (by kernel_rfl)).symm.trans h0_) (by decide), ?_⟩
                            refine ⟨(by (with_reducible repeat (first | apply Kd.R_alloc | apply Kd.R_drewN | apply Kd.R_drew)); exact Kd.R_mono (Kd.R_far (p := ⟨gb256, 1, none⟩) (Kd.R_far (p := ⟨gb256, 0, none⟩) (Kd.R_types HO_7.out BK256.out (by decide)) (fun _ hk => hk.2) (.int .i64 t248)) (fun _ hk => hk.2) (.slice Ao57 t249.length co57)) (fun _ hk => trivial)), ?_⟩
                            refine ⟨(by (with_reducible repeat (first | refine blk_drewN ?_ _ | refine blk_drew ?_ | refine blk_alloc ?_ _)); refine blk_far ?_ NB224_256.out _; (with_reducible repeat (first | refine blk_drewN ?_ _ | refine blk_drew ?_ | refine blk_alloc ?_ _)); refine blk_far ?_ NB224_256.out _; (with_reducible repeat (first | refine blk_drewN ?_ _ | refine blk_drew ?_ | refine blk_alloc ?_ _)); exact BK224.out), ?_⟩
                            refine ⟨(by (with_reducible repeat (first | refine blk_drewN ?_ _ | refine blk_drew ?_ | refine blk_alloc ?_ _)); refine blk_far ?_ NB239_256.out _; (with_reducible repeat (first | refine blk_drewN ?_ _ | refine blk_drew ?_ | refine blk_alloc ?_ _)); refine blk_far ?_ NB239_256.out _; (with_reducible repeat (first | refine blk_drewN ?_ _ | refine blk_drew ?_ | refine blk_alloc ?_ _)); exact BK239.out), ?_⟩
                            refine ⟨(by (with_reducible repeat (first | refine blk_drewN ?_ _ | refine blk_drew ?_ | refine blk_alloc ?_ _)); refine blk_far ?_ NB240_256.out _; (with_reducible repeat (first | refine blk_drewN ?_ _ | refine blk_drew ?_ | refine blk_alloc ?_ _)); refine blk_far ?_ NB240_256.out _; (with_reducible repeat (first | refine blk_drewN ?_ _ | refine blk_drew ?_ | refine blk_alloc ?_ _)); exact BK240.out), ?_⟩
                            refine ⟨(by (with_reducible repeat (first | refine blk_drewN ?_ _ | refine blk_drew ?_ | refine blk_alloc ?_ _)); refine blk_far ?_ NB241_256.out _; (with_reducible repeat (first | refine blk_drewN ?_ _ | refine blk_drew ?_ | refine blk_alloc ?_ _)); refine blk_far ?_ NB241_256.out _; (with_reducible repeat (first | refine blk_drewN ?_ _ | refine blk_drew ?_ | refine blk_alloc ?_ _)); exact BK241.out), ?_⟩
                            refine ⟨(by repeat (first | (with_reducible first | exact HB.out | apply below_alloc | apply pw_below_drewN | apply below_drew1 | refine below_set ?_ GE224.out | refine below_set ?_ GE239.out | refine below_set ?_ GE240.out | refine below_set ?_ GE241.out | refine below_set ?_ GE256.out | refine below_set ?_ GE257.out) | exact HB.out)), ?_⟩
                            refine ⟨(by first | (have hR_ := (Kd.R_far (p := ⟨gb256, 1, none⟩) (Kd.R_far (p := ⟨gb256, 0, none⟩) (Kd.R_types HO_7.out BK256.out (by decide)) (fun _ hk => hk.2) (.int .i64 t248)) (fun _ hk => hk.2) (.slice Ao57 t249.length co57)); rw [Ny244.out, KA51.out]; exact Kd.C_mid (lo := (x12_1 : Int).toNat) (hi := (x14_39 : Int).toNat) (c := co21) ((Kd.R_reads' (hR_)).2.2) KM51.out KL51.out ((Kd.R_reads' (hR_)).2.1)) | (rw [Ny244.out, KA51.out]; exact Kd.C_mid (lo := (x12_1 : Int).toNat) (hi := (x14_39 : Int).toNat) (c := co21) ((Kd.R_reads' (by (with_reducible repeat (first | apply Kd.R_alloc | apply Kd.R_drewN | apply Kd.R_drew)); exact (Kd.R_mono (Kd.R_far (p := ⟨gb256, 1, none⟩) (Kd.R_far (p := ⟨gb256, 0, none⟩) (Kd.R_types HO_7.out BK256.out (by decide)) (fun _ hk => hk.2) (.int .i64 t248)) (fun _ hk => hk.2) (.slice Ao57 t249.length co57)) (fun _ h_ => h_.1)))).2.2) KM51.out KL51.out ((Kd.R_reads' (by (with_reducible repeat (first | apply Kd.R_alloc | apply Kd.R_drewN | apply Kd.R_drew)); exact (Kd.R_mono (Kd.R_far (p := ⟨gb256, 1, none⟩) (Kd.R_far (p := ⟨gb256, 0, none⟩) (Kd.R_types HO_7.out BK256.out (by decide)) (fun _ hk => hk.2) (.int .i64 t248)) (fun _ hk => hk.2) (.slice Ao57 t249.length co57)) (fun _ h_ => h_.1)))).2.1))), ?_⟩
                            refine ⟨fun _ _ => NB257_256.out, ?_⟩
                            refine ⟨fun _ _ => NB256_257.out, ?_⟩
                            refine ⟨fun _ => (by (with_reducible repeat (first | apply Kd.R_alloc | apply Kd.R_drewN | apply Kd.R_drew)); exact Kd.R_mono (Kd.R_far (p := ⟨gb256, 1, none⟩) (Kd.R_far (p := ⟨gb256, 0, none⟩) (Kd.R_types HO251.out BK256.out (by decide)) (fun _ hk => hk.2) (.int .i64 t248)) (fun _ hk => hk.2) (.slice Ao57 t249.length co57)) (fun _ hk => ⟨hk.1.1, hk.1.2⟩)), ?_⟩
                            refine ⟨fun _ => (by (with_reducible repeat (first | apply Kd.R_alloc | apply Kd.R_drewN | apply Kd.R_drew)); exact Kd.R_mono (Kd.R_far (p := ⟨gb256, 1, none⟩) (Kd.R_far (p := ⟨gb256, 0, none⟩) (Kd.R_types HO_240001.out BK256.out (by decide)) (fun _ hk => hk.2) (.int .i64 t248)) (fun _ hk => hk.2) (.slice Ao57 t249.length co57)) (fun _ hk => ⟨hk.1.1, hk.1.2⟩)), ?_⟩
                            refine ⟨fun _ => (by (with_reducible repeat (first | apply Kd.R_alloc | apply Kd.R_drewN | apply Kd.R_drew)); exact Kd.R_mono (Kd.R_far (p := ⟨gb256, 1, none⟩) (Kd.R_far (p := ⟨gb256, 0, none⟩) (Kd.R_types HO_242001.out BK256.out (by decide)) (fun _ hk => hk.2) (.int .i64 t248)) (fun _ hk => hk.2) (.slice Ao57 t249.length co57)) (fun _ hk => ⟨hk.1.1, hk.1.2⟩)), ?_⟩
                            refine ⟨fun _ h1_ => absurd ((up_self b 12).symm.trans h1_) (by decide), ?_⟩
                            refine ⟨fun _ => GW256.out, ?_⟩
                            refine ⟨fun _ => GE256.out, ?_⟩
                            refine ⟨fun _ => NB224_256.out, ?_⟩
                            refine ⟨fun _ => NB256_224.out, ?_⟩
                            refine ⟨fun _ => NB239_256.out, ?_⟩
                            refine ⟨fun _ => NB256_239.out, ?_⟩
                            refine ⟨fun _ => NB240_256.out, ?_⟩
                            refine ⟨fun _ => NB256_240.out, ?_⟩
                            refine ⟨fun _ => NB241_256.out, ?_⟩
                            refine ⟨fun _ => NB256_241.out, ?_⟩
                            refine ⟨fun _ _ => (by (with_reducible repeat (first | refine blk_drewN ?_ _ | refine blk_drew ?_ | refine blk_alloc ?_ _)); refine blk_far ?_ NB257_256.out _; (with_reducible repeat (first | refine blk_drewN ?_ _ | refine blk_drew ?_ | refine blk_alloc ?_ _)); refine blk_far ?_ NB257_256.out _; (with_reducible repeat (first | refine blk_drewN ?_ _ | refine blk_drew ?_ | refine blk_alloc ?_ _)); exact BK257.out), ?_⟩
                            refine ⟨fun _ => GW257.out, ?_⟩
                            refine ⟨fun _ => GE257.out, ?_⟩
                            refine ⟨fun _ => NB224_257.out, ?_⟩
                            refine ⟨fun _ => NB257_224.out, ?_⟩
                            refine ⟨fun _ => NB239_257.out, ?_⟩
                            refine ⟨fun _ => NB257_239.out, ?_⟩
                            refine ⟨fun _ => NB240_257.out, ?_⟩
                            refine ⟨fun _ => NB257_240.out, ?_⟩
                            refine ⟨fun _ => NB241_257.out, ?_⟩
                            refine ⟨fun _ => NB257_241.out, ?_⟩
                            refine ⟨fun _ => (by (with_reducible repeat (first | refine blk_drewN ?_ _ | refine blk_drew ?_ | refine blk_alloc ?_ _)); refine blk_put (cs := #[.int .i64 t248, .slice none 0 0]) ?_ 1 _ rfl; (with_reducible repeat (first | refine blk_drewN ?_ _ | refine blk_drew ?_ | refine blk_alloc ?_ _)); refine blk_put (cs := #[.int .i64 0, .slice none 0 0]) ?_ 0 _ rfl; (with_reducible repeat (first | refine blk_drewN ?_ _ | refine blk_drew ?_ | refine blk_alloc ?_ _)); exact BK256.out), ?_⟩
                            refine ⟨fun h0_ => absurd ((hoff 13 (by kernel_rfl)).symm.trans h0_) (by decide), ?_⟩
                            refine ⟨Q_X5_, ?_⟩
                            refine ⟨Q_X6_, ?_⟩
                            refine ⟨Q_X7_, ?_⟩
                            refine ⟨Q_X10_, ?_⟩
                            exact Q_X11_
                          refine steps_cons ?_ ?_
                          · rintro b a w' ⟨v250, gb256, gb257, m5_, m6_, m7_, m10_, m11_, ha, Q_HO_240001, Q_HO_242001, Q_HO_7, Q_BK224, Q_BK239, Q_BK240, Q_BK241, Q_HB, Q_HR247, Q_NB257_256, Q_NB256_257, Q_HO251, Q_HO_240001_e5, Q_HO_242001_e5, Q_BK256, Q_GW256, Q_GE256, Q_NB224_256, Q_NB256_224, Q_NB239_256, Q_NB256_239, Q_NB240_256, Q_NB256_240, Q_NB241_256, Q_NB256_241, Q_BK257, Q_GW257, Q_GE257, Q_NB224_257, Q_NB257_224, Q_NB239_257, Q_NB257_239, Q_NB240_257, Q_NB257_240, Q_NB241_257, Q_NB257_241, Q_BK256_e12, Q_BK257_e13, Q_X5_, Q_X6_, Q_X7_, Q_X10_, Q_X11_⟩ hb_ hon hoff
                            refine ⟨_, rfl, fun K hK => ?_⟩
                            have e16 : a.tmps[16]? = some (m11_) := by rw [ha]; exact putSel_on (e := (11, 16, m11_)) 8 rfl rfl (hon 11 (by kernel_rfl)) rfl
                            rw [Q_X11_ (hon 11 (by kernel_rfl))] at e16
                            have e72 : a.tmps[72]? = some (.agg #[.int .i64 t252, .int .i64 t253, .int .i64 t254]) := by rw [ha]; exact putSel_on (e := (8, 72, .agg #[.int .i64 t252, .int .i64 t253, .int .i64 t254])) 5 rfl rfl (hon 8 (by kernel_rfl)) rfl
                            replace ha := Aside0.mk ha
                            have HO_7 := Aside0.mk Q_HO_7
                            have BK224 := Aside0.mk Q_BK224
                            have BK239 := Aside0.mk Q_BK239
                            have BK240 := Aside0.mk Q_BK240
                            have BK241 := Aside0.mk Q_BK241
                            have HB := Aside0.mk Q_HB
                            have HR247 := Aside0.mk Q_HR247
                            have NB257_256 := Aside0.mk (Q_NB257_256 (hon 10 (by kernel_rfl)) (hon 11 (by kernel_rfl)))
                            have NB256_257 := Aside0.mk (Q_NB256_257 (hon 10 (by kernel_rfl)) (hon 11 (by kernel_rfl)))
                            have HO251 := Aside0.mk (Q_HO251 (hon 5 (by kernel_rfl)))
                            have HO_240001 := Aside0.mk (Q_HO_240001_e5 (hon 5 (by kernel_rfl)))
                            have HO_242001 := Aside0.mk (Q_HO_242001_e5 (hon 5 (by kernel_rfl)))
                            have GW256 := Aside0.mk (Q_GW256 (hon 10 (by kernel_rfl)))
                            have GE256 := Aside0.mk (Q_GE256 (hon 10 (by kernel_rfl)))
                            have NB224_256 := Aside0.mk (Q_NB224_256 (hon 10 (by kernel_rfl)))
                            have NB256_224 := Aside0.mk (Q_NB256_224 (hon 10 (by kernel_rfl)))
                            have NB239_256 := Aside0.mk (Q_NB239_256 (hon 10 (by kernel_rfl)))
                            have NB256_239 := Aside0.mk (Q_NB256_239 (hon 10 (by kernel_rfl)))
                            have NB240_256 := Aside0.mk (Q_NB240_256 (hon 10 (by kernel_rfl)))
                            have NB256_240 := Aside0.mk (Q_NB256_240 (hon 10 (by kernel_rfl)))
                            have NB241_256 := Aside0.mk (Q_NB241_256 (hon 10 (by kernel_rfl)))
                            have NB256_241 := Aside0.mk (Q_NB256_241 (hon 10 (by kernel_rfl)))
                            have BK257 := Aside0.mk (Q_BK257 (hon 11 (by kernel_rfl)) hb_)
                            have GW257 := Aside0.mk (Q_GW257 (hon 11 (by kernel_rfl)))
                            have GE257 := Aside0.mk (Q_GE257 (hon 11 (by kernel_rfl)))
                            have NB224_257 := Aside0.mk (Q_NB224_257 (hon 11 (by kernel_rfl)))
                            have NB257_224 := Aside0.mk (Q_NB257_224 (hon 11 (by kernel_rfl)))
                            have NB239_257 := Aside0.mk (Q_NB239_257 (hon 11 (by kernel_rfl)))
                            have NB257_239 := Aside0.mk (Q_NB257_239 (hon 11 (by kernel_rfl)))
                            have NB240_257 := Aside0.mk (Q_NB240_257 (hon 11 (by kernel_rfl)))
                            have NB257_240 := Aside0.mk (Q_NB257_240 (hon 11 (by kernel_rfl)))
                            have NB241_257 := Aside0.mk (Q_NB241_257 (hon 11 (by kernel_rfl)))
                            have NB257_241 := Aside0.mk (Q_NB257_241 (hon 11 (by kernel_rfl)))
                            have BK256 := Aside0.mk (Q_BK256_e12 (hon 12 (by kernel_rfl)))
                            have hs59 : w'.cell? ⟨gb257, 0, none⟩ = some (.int .i64 0) := (blk_cell BK257.out 0).trans rfl
                            have hfs59 := blk_frozen BK257.out 0
                            have hns59_0 := NB224_257.out
                            have hns59_1 := NB239_257.out
                            have hns59_2 := NB240_257.out
                            have hns59_3 := NB241_257.out
                            have hns59_4 := NB256_257.out
                            have hms59_0 := NB257_224.out
                            have hms59_1 := NB257_239.out
                            have hms59_2 := NB257_240.out
                            have hms59_3 := NB257_241.out
                            have hms59_4 := NB257_256.out
                            have hs60 : w'.cell? ⟨gb257, 1, none⟩ = some (.int .i64 0) := (blk_cell BK257.out 1).trans rfl
                            have hfs60 := blk_frozen BK257.out 1
                            have hns60_0 := NB224_257.out
                            have hns60_1 := NB239_257.out
                            have hns60_2 := NB240_257.out
                            have hns60_3 := NB241_257.out
                            have hns60_4 := NB256_257.out
                            have hms60_0 := NB257_224.out
                            have hms60_1 := NB257_239.out
                            have hms60_2 := NB257_240.out
                            have hms60_3 := NB257_241.out
                            have hms60_4 := NB257_256.out
                            have hs61 : w'.cell? ⟨gb257, 2, none⟩ = some (.int .i64 0) := (blk_cell BK257.out 2).trans rfl
                            have hfs61 := blk_frozen BK257.out 2
                            have hns61_0 := NB224_257.out
                            have hns61_1 := NB239_257.out
                            have hns61_2 := NB240_257.out
                            have hns61_3 := NB241_257.out
                            have hns61_4 := NB256_257.out
                            have hms61_0 := NB257_224.out
                            have hms61_1 := NB257_239.out
                            have hms61_2 := NB257_240.out
                            have hms61_3 := NB257_241.out
                            have hms61_4 := NB257_256.out
                            refine skip_ (w1 := ?_) (by rfl) rfl ?_ ?_
                            rotate_left
                            · go_simp
                              rfl
                            refine hK.out _ _ ?_
                            refine ⟨v250, ?_⟩
                            refine ⟨gb256, ?_⟩
                            refine ⟨gb257, ?_⟩
                            refine ⟨m5_, ?_⟩
                            refine ⟨m6_, ?_⟩
                            refine ⟨m7_, ?_⟩
                            refine ⟨m10_, ?_⟩
                            refine ⟨m11_, ?_⟩
                            refine ⟨(by rw [ha.out]; exact putSel_none (v := undef) rfl), ?_⟩
                            refine ⟨fun h0_ => absurd ((hon 5 (by kernel_rfl)).symm.trans h0_) (by decide), ?_⟩
                            refine ⟨fun h0_ => absurd ((hon 5 (by kernel_rfl)).symm.trans h0_) (by decide), ?_⟩
                            refine ⟨(by (with_reducible repeat (first | apply Kd.R_alloc | apply Kd.R_drewN | apply Kd.R_drew)); exact Kd.R_mono (Kd.R_far (p := ⟨gb257, 2, none⟩) (Kd.R_far (p := ⟨gb257, 1, none⟩) (Kd.R_far (p := ⟨gb257, 0, none⟩) (Kd.R_types HO_7.out BK257.out (by decide)) (fun _ hk => hk.2) (.int .i64 t252)) (fun _ hk => hk.2) (.int .i64 t253)) (fun _ hk => hk.2) (.int .i64 t254)) (fun _ hk => trivial)), ?_⟩
                            refine ⟨(by (with_reducible repeat (first | refine blk_drewN ?_ _ | refine blk_drew ?_ | refine blk_alloc ?_ _)); refine blk_far ?_ NB224_257.out _; (with_reducible repeat (first | refine blk_drewN ?_ _ | refine blk_drew ?_ | refine blk_alloc ?_ _)); refine blk_far ?_ NB224_257.out _; (with_reducible repeat (first | refine blk_drewN ?_ _ | refine blk_drew ?_ | refine blk_alloc ?_ _)); refine blk_far ?_ NB224_257.out _; (with_reducible repeat (first | refine blk_drewN ?_ _ | refine blk_drew ?_ | refine blk_alloc ?_ _)); exact BK224.out), ?_⟩
                            refine ⟨(by (with_reducible repeat (first | refine blk_drewN ?_ _ | refine blk_drew ?_ | refine blk_alloc ?_ _)); refine blk_far ?_ NB239_257.out _; (with_reducible repeat (first | refine blk_drewN ?_ _ | refine blk_drew ?_ | refine blk_alloc ?_ _)); refine blk_far ?_ NB239_257.out _; (with_reducible repeat (first | refine blk_drewN ?_ _ | refine blk_drew ?_ | refine blk_alloc ?_ _)); refine blk_far ?_ NB239_257.out _; (with_reducible repeat (first | refine blk_drewN ?_ _ | refine blk_drew ?_ | refine blk_alloc ?_ _)); exact BK239.out), ?_⟩
                            refine ⟨(by (with_reducible repeat (first | refine blk_drewN ?_ _ | refine blk_drew ?_ | refine blk_alloc ?_ _)); refine blk_far ?_ NB240_257.out _; (with_reducible repeat (first | refine blk_drewN ?_ _ | refine blk_drew ?_ | refine blk_alloc ?_ _)); refine blk_far ?_ NB240_257.out _; (with_reducible repeat (first | refine blk_drewN ?_ _ | refine blk_drew ?_ | refine blk_alloc ?_ _)); refine blk_far ?_ NB240_257.out _; (with_reducible repeat (first | refine blk_drewN ?_ _ | refine blk_drew ?_ | refine blk_alloc ?_ _)); exact BK240.out), ?_⟩
                            refine ⟨(by (with_reducible repeat (first | refine blk_drewN ?_ _ | refine blk_drew ?_ | refine blk_alloc ?_ _)); refine blk_far ?_ NB241_257.out _; (with_reducible repeat (first | refine blk_drewN ?_ _ | refine blk_drew ?_ | refine blk_alloc ?_ _)); refine blk_far ?_ NB241_257.out _; (with_reducible repeat (first | refine blk_drewN ?_ _ | refine blk_drew ?_ | refine blk_alloc ?_ _)); refine blk_far ?_ NB241_257.out _; (with_reducible repeat (first | refine blk_drewN ?_ _ | refine blk_drew ?_ | refine blk_alloc ?_ _)); exact BK241.out), ?_⟩
                            refine ⟨(by repeat (first | (with_reducible first | exact HB.out | apply below_alloc | apply pw_below_drewN | apply below_drew1 | refine below_set ?_ GE224.out | refine below_set ?_ GE239.out | refine below_set ?_ GE240.out | refine below_set ?_ GE241.out | refine below_set ?_ GE256.out | refine below_set ?_ GE257.out) | exact HB.out)), ?_⟩
                            refine ⟨(by first | (have hR_ := (Kd.R_far (p := ⟨gb257, 2, none⟩) (Kd.R_far (p := ⟨gb257, 1, none⟩) (Kd.R_far (p := ⟨gb257, 0, none⟩) (Kd.R_types HO_7.out BK257.out (by decide)) (fun _ hk => hk.2) (.int .i64 t252)) (fun _ hk => hk.2) (.int .i64 t253)) (fun _ hk => hk.2) (.int .i64 t254)); rw [Ny244.out, KA51.out]; exact Kd.C_mid (lo := (x12_1 : Int).toNat) (hi := (x14_39 : Int).toNat) (c := co21) ((Kd.R_reads' (hR_)).2.2) KM51.out KL51.out ((Kd.R_reads' (hR_)).2.1)) | (rw [Ny244.out, KA51.out]; exact Kd.C_mid (lo := (x12_1 : Int).toNat) (hi := (x14_39 : Int).toNat) (c := co21) ((Kd.R_reads' (by (with_reducible repeat (first | apply Kd.R_alloc | apply Kd.R_drewN | apply Kd.R_drew)); exact (Kd.R_mono (Kd.R_far (p := ⟨gb257, 2, none⟩) (Kd.R_far (p := ⟨gb257, 1, none⟩) (Kd.R_far (p := ⟨gb257, 0, none⟩) (Kd.R_types HO_7.out BK257.out (by decide)) (fun _ hk => hk.2) (.int .i64 t252)) (fun _ hk => hk.2) (.int .i64 t253)) (fun _ hk => hk.2) (.int .i64 t254)) (fun _ h_ => h_.1)))).2.2) KM51.out KL51.out ((Kd.R_reads' (by (with_reducible repeat (first | apply Kd.R_alloc | apply Kd.R_drewN | apply Kd.R_drew)); exact (Kd.R_mono (Kd.R_far (p := ⟨gb257, 2, none⟩) (Kd.R_far (p := ⟨gb257, 1, none⟩) (Kd.R_far (p := ⟨gb257, 0, none⟩) (Kd.R_types HO_7.out BK257.out (by decide)) (fun _ hk => hk.2) (.int .i64 t252)) (fun _ hk => hk.2) (.int .i64 t253)) (fun _ hk => hk.2) (.int .i64 t254)) (fun _ h_ => h_.1)))).2.1))), ?_⟩
                            refine ⟨fun _ _ => NB257_256.out, ?_⟩
                            refine ⟨fun _ _ => NB256_257.out, ?_⟩
                            refine ⟨fun _ => (by (with_reducible repeat (first | apply Kd.R_alloc | apply Kd.R_drewN | apply Kd.R_drew)); exact Kd.R_mono (Kd.R_far (p := ⟨gb257, 2, none⟩) (Kd.R_far (p := ⟨gb257, 1, none⟩) (Kd.R_far (p := ⟨gb257, 0, none⟩) (Kd.R_types HO251.out BK257.out (by decide)) (fun _ hk => hk.2) (.int .i64 t252)) (fun _ hk => hk.2) (.int .i64 t253)) (fun _ hk => hk.2) (.int .i64 t254)) (fun _ hk => ⟨hk.1.1, hk.1.2⟩)), ?_⟩
                            refine ⟨fun _ => (by (with_reducible repeat (first | apply Kd.R_alloc | apply Kd.R_drewN | apply Kd.R_drew)); exact Kd.R_mono (Kd.R_far (p := ⟨gb257, 2, none⟩) (Kd.R_far (p := ⟨gb257, 1, none⟩) (Kd.R_far (p := ⟨gb257, 0, none⟩) (Kd.R_types HO_240001.out BK257.out (by decide)) (fun _ hk => hk.2) (.int .i64 t252)) (fun _ hk => hk.2) (.int .i64 t253)) (fun _ hk => hk.2) (.int .i64 t254)) (fun _ hk => ⟨hk.1.1, hk.1.2⟩)), ?_⟩
                            refine ⟨fun _ => (by (with_reducible repeat (first | apply Kd.R_alloc | apply Kd.R_drewN | apply Kd.R_drew)); exact Kd.R_mono (Kd.R_far (p := ⟨gb257, 2, none⟩) (Kd.R_far (p := ⟨gb257, 1, none⟩) (Kd.R_far (p := ⟨gb257, 0, none⟩) (Kd.R_types HO_242001.out BK257.out (by decide)) (fun _ hk => hk.2) (.int .i64 t252)) (fun _ hk => hk.2) (.int .i64 t253)) (fun _ hk => hk.2) (.int .i64 t254)) (fun _ hk => ⟨hk.1.1, hk.1.2⟩)), ?_⟩
                            refine ⟨fun _ h1_ => absurd ((hon 12 (by kernel_rfl)).symm.trans h1_) (by decide), ?_⟩
                            refine ⟨fun _ => GW256.out, ?_⟩
                            refine ⟨fun _ => GE256.out, ?_⟩
                            refine ⟨fun _ => NB224_256.out, ?_⟩
                            refine ⟨fun _ => NB256_224.out, ?_⟩
                            refine ⟨fun _ => NB239_256.out, ?_⟩
                            refine ⟨fun _ => NB256_239.out, ?_⟩
                            refine ⟨fun _ => NB240_256.out, ?_⟩
                            refine ⟨fun _ => NB256_240.out, ?_⟩
                            refine ⟨fun _ => NB241_256.out, ?_⟩
                            refine ⟨fun _ => NB256_241.out, ?_⟩
                            refine ⟨fun _ h1_ => absurd ((up_self b 13).symm.trans h1_) (by decide), ?_⟩
                            refine ⟨fun _ => GW257.out, ?_⟩
                            refine ⟨fun _ => GE257.out, ?_⟩
                            refine ⟨fun _ => NB224_257.out, ?_⟩
                            refine ⟨fun _ => NB257_224.out, ?_⟩
                            refine ⟨fun _ => NB239_257.out, ?_⟩
                            refine ⟨fun _ => NB257_239.out, ?_⟩
                            refine ⟨fun _ => NB240_257.out, ?_⟩
                            refine ⟨fun _ => NB257_240.out, ?_⟩
                            refine ⟨fun _ => NB241_257.out, ?_⟩
                            refine ⟨fun _ => NB257_241.out, ?_⟩
                            refine ⟨fun _ => (by (with_reducible repeat (first | refine blk_drewN ?_ _ | refine blk_drew ?_ | refine blk_alloc ?_ _)); refine blk_far ?_ NB256_257.out _; (with_reducible repeat (first | refine blk_drewN ?_ _ | refine blk_drew ?_ | refine blk_alloc ?_ _)); refine blk_far ?_ NB256_257.out _; (with_reducible repeat (first | refine blk_drewN ?_ _ | refine blk_drew ?_ | refine blk_alloc ?_ _)); refine blk_far ?_ NB256_257.out _; (with_reducible repeat (first | refine blk_drewN ?_ _ | refine blk_drew ?_ | refine blk_alloc ?_ _)); exact BK256.out), ?_⟩
                            refine ⟨fun _ => (by (with_reducible repeat (first | refine blk_drewN ?_ _ | refine blk_drew ?_ | refine blk_alloc ?_ _)); refine blk_put (cs := #[.int .i64 t252, .int .i64 t253, .int .i64 0]) ?_ 2 _ rfl; (with_reducible repeat (first | refine blk_drewN ?_ _ | refine blk_drew ?_ | refine blk_alloc ?_ _)); refine blk_put (cs := #[.int .i64 t252, .int .i64 0, .int .i64 0]) ?_ 1 _ rfl; (with_reducible repeat (first | refine blk_drewN ?_ _ | refine blk_drew ?_ | refine blk_alloc ?_ _)); refine blk_put (cs := #[.int .i64 0, .int .i64 0, .int .i64 0]) ?_ 0 _ rfl; (with_reducible repeat (first | refine blk_drewN ?_ _ | refine blk_drew ?_ | refine blk_alloc ?_ _)); exact BK257.out), ?_⟩
                            refine ⟨Q_X5_, ?_⟩
                            refine ⟨Q_X6_, ?_⟩
                            refine ⟨Q_X7_, ?_⟩
                            refine ⟨Q_X10_, ?_⟩
                            exact Q_X11_
                          refine steps_cons ?_ ?_
                          · rintro b a w' ⟨v250, gb256, gb257, m5_, m6_, m7_, m10_, m11_, ha, Q_HO_240001, Q_HO_242001, Q_HO_7, Q_BK224, Q_BK239, Q_BK240, Q_BK241, Q_HB, Q_HR247, Q_NB257_256, Q_NB256_257, Q_HO251, Q_HO_240001_e5, Q_HO_242001_e5, Q_BK256, Q_GW256, Q_GE256, Q_NB224_256, Q_NB256_224, Q_NB239_256, Q_NB256_239, Q_NB240_256, Q_NB256_240, Q_NB241_256, Q_NB256_241, Q_BK257, Q_GW257, Q_GE257, Q_NB224_257, Q_NB257_224, Q_NB239_257, Q_NB257_239, Q_NB240_257, Q_NB257_240, Q_NB241_257, Q_NB257_241, Q_BK256_e12, Q_BK257_e13, Q_X5_, Q_X6_, Q_X7_, Q_X10_, Q_X11_⟩ hb_ hon hoff
                            refine ⟨_, rfl, fun K hK => ?_⟩
                            have e73 : a.tmps[73]? = some (.int .i64 t255) := by rw [ha]; exact putSel_on (e := (9, 73, .int .i64 t255)) 6 rfl rfl (hon 9 (by kernel_rfl)) rfl
                            replace ha := Aside0.mk ha
                            have HO_7 := Aside0.mk Q_HO_7
                            have BK224 := Aside0.mk Q_BK224
                            have BK239 := Aside0.mk Q_BK239
                            have BK240 := Aside0.mk Q_BK240
                            have BK241 := Aside0.mk Q_BK241
                            have HB := Aside0.mk Q_HB
                            have HR247 := Aside0.mk Q_HR247
                            have NB257_256 := Aside0.mk (Q_NB257_256 (hon 10 (by kernel_rfl)) (hon 11 (by kernel_rfl)))
                            have NB256_257 := Aside0.mk (Q_NB256_257 (hon 10 (by kernel_rfl)) (hon 11 (by kernel_rfl)))
                            have HO251 := Aside0.mk (Q_HO251 (hon 5 (by kernel_rfl)))
                            have HO_240001 := Aside0.mk (Q_HO_240001_e5 (hon 5 (by kernel_rfl)))
                            have HO_242001 := Aside0.mk (Q_HO_242001_e5 (hon 5 (by kernel_rfl)))
                            have GW256 := Aside0.mk (Q_GW256 (hon 10 (by kernel_rfl)))
                            have GE256 := Aside0.mk (Q_GE256 (hon 10 (by kernel_rfl)))
                            have NB224_256 := Aside0.mk (Q_NB224_256 (hon 10 (by kernel_rfl)))
                            have NB256_224 := Aside0.mk (Q_NB256_224 (hon 10 (by kernel_rfl)))
                            have NB239_256 := Aside0.mk (Q_NB239_256 (hon 10 (by kernel_rfl)))
                            have NB256_239 := Aside0.mk (Q_NB256_239 (hon 10 (by kernel_rfl)))
                            have NB240_256 := Aside0.mk (Q_NB240_256 (hon 10 (by kernel_rfl)))
                            have NB256_240 := Aside0.mk (Q_NB256_240 (hon 10 (by kernel_rfl)))
                            have NB241_256 := Aside0.mk (Q_NB241_256 (hon 10 (by kernel_rfl)))
                            have NB256_241 := Aside0.mk (Q_NB256_241 (hon 10 (by kernel_rfl)))
                            have GW257 := Aside0.mk (Q_GW257 (hon 11 (by kernel_rfl)))
                            have GE257 := Aside0.mk (Q_GE257 (hon 11 (by kernel_rfl)))
                            have NB224_257 := Aside0.mk (Q_NB224_257 (hon 11 (by kernel_rfl)))
                            have NB257_224 := Aside0.mk (Q_NB257_224 (hon 11 (by kernel_rfl)))
                            have NB239_257 := Aside0.mk (Q_NB239_257 (hon 11 (by kernel_rfl)))
                            have NB257_239 := Aside0.mk (Q_NB257_239 (hon 11 (by kernel_rfl)))
                            have NB240_257 := Aside0.mk (Q_NB240_257 (hon 11 (by kernel_rfl)))
                            have NB257_240 := Aside0.mk (Q_NB257_240 (hon 11 (by kernel_rfl)))
                            have NB241_257 := Aside0.mk (Q_NB241_257 (hon 11 (by kernel_rfl)))
                            have NB257_241 := Aside0.mk (Q_NB257_241 (hon 11 (by kernel_rfl)))
                            have BK256 := Aside0.mk (Q_BK256_e12 (hon 12 (by kernel_rfl)))
                            have BK257 := Aside0.mk (Q_BK257_e13 (hon 13 (by kernel_rfl)))
                            refine value_ (w1 := w') (v := .int .i64 t255) (by rfl) rfl ?_ ?_
                            · go_simp
                              (try simp only [i64_w])
                              try rfl
                            refine hK.out _ _ ?_
                            refine ⟨v250, ?_⟩
                            refine ⟨gb256, ?_⟩
                            refine ⟨gb257, ?_⟩
                            refine ⟨m5_, ?_⟩
                            refine ⟨m6_, ?_⟩
                            refine ⟨m7_, ?_⟩
                            refine ⟨m10_, ?_⟩
                            refine ⟨m11_, ?_⟩
                            refine ⟨(by rw [ha.out]; exact putSel_upk 9 hb_ rfl rfl rfl), ?_⟩
                            refine ⟨fun h0_ => absurd ((hon 5 (by kernel_rfl)).symm.trans h0_) (by decide), ?_⟩
                            refine ⟨fun h0_ => absurd ((hon 5 (by kernel_rfl)).symm.trans h0_) (by decide), ?_⟩
                            refine ⟨Q_HO_7, ?_⟩
                            refine ⟨Q_BK224, ?_⟩
                            refine ⟨Q_BK239, ?_⟩
                            refine ⟨Q_BK240, ?_⟩
                            refine ⟨Q_BK241, ?_⟩
                            refine ⟨Q_HB, ?_⟩
                            refine ⟨Q_HR247, ?_⟩
                            refine ⟨Q_NB257_256, ?_⟩
                            refine ⟨Q_NB256_257, ?_⟩
                            refine ⟨Q_HO251, ?_⟩
                            refine ⟨Q_HO_240001_e5, ?_⟩
                            refine ⟨Q_HO_242001_e5, ?_⟩
                            refine ⟨fun _ h1_ => absurd ((hon 12 (by kernel_rfl)).symm.trans h1_) (by decide), ?_⟩
                            refine ⟨Q_GW256, ?_⟩
                            refine ⟨Q_GE256, ?_⟩
                            refine ⟨Q_NB224_256, ?_⟩
                            refine ⟨Q_NB256_224, ?_⟩
                            refine ⟨Q_NB239_256, ?_⟩
                            refine ⟨Q_NB256_239, ?_⟩
                            refine ⟨Q_NB240_256, ?_⟩
                            refine ⟨Q_NB256_240, ?_⟩
                            refine ⟨Q_NB241_256, ?_⟩
                            refine ⟨Q_NB256_241, ?_⟩
                            refine ⟨fun _ h1_ => absurd ((hon 13 (by kernel_rfl)).symm.trans h1_) (by decide), ?_⟩
                            refine ⟨Q_GW257, ?_⟩
                            refine ⟨Q_GE257, ?_⟩
                            refine ⟨Q_NB224_257, ?_⟩
                            refine ⟨Q_NB257_224, ?_⟩
                            refine ⟨Q_NB239_257, ?_⟩
                            refine ⟨Q_NB257_239, ?_⟩
                            refine ⟨Q_NB240_257, ?_⟩
                            refine ⟨Q_NB257_240, ?_⟩
                            refine ⟨Q_NB241_257, ?_⟩
                            refine ⟨Q_NB257_241, ?_⟩
                            refine ⟨Q_BK256_e12, ?_⟩
                            refine ⟨Q_BK257_e13, ?_⟩
                            refine ⟨Q_X5_, ?_⟩
                            refine ⟨Q_X6_, ?_⟩
                            refine ⟨Q_X7_, ?_⟩
                            refine ⟨Q_X10_, ?_⟩
                            exact Q_X11_
                          exact steps_nil
                        rintro b a w61 hall ⟨v250, gb256, gb257, m5_, m6_, m7_, m10_, m11_, ha, Q_HO_240001, Q_HO_242001, Q_HO_7, Q_BK224, Q_BK239, Q_BK240, Q_BK241, Q_HB, Q_HR247, Q_NB257_256, Q_NB256_257, Q_HO251, Q_HO_240001_e5, Q_HO_242001_e5, Q_BK256, Q_GW256, Q_GE256, Q_NB224_256, Q_NB256_224, Q_NB239_256, Q_NB256_239, Q_NB240_256, Q_NB256_240, Q_NB241_256, Q_NB256_241, Q_BK257, Q_GW257, Q_GE257, Q_NB224_257, Q_NB257_224, Q_NB239_257, Q_NB257_239, Q_NB240_257, Q_NB257_240, Q_NB241_257, Q_NB257_241, Q_BK256_e12, Q_BK257_e13, Q_X5_, Q_X6_, Q_X7_, Q_X10_, Q_X11_⟩
                        clear BK224 BK239 BK240 BK241 HB HO_240001 HO_242001 HO_7 HR247
                        have hb0_ := hall 0 (by kernel_rfl)
                        have hb4_ := hall 4 (by kernel_rfl)
                        have hb5_ := hall 5 (by kernel_rfl)
                        have hb6_ := hall 6 (by kernel_rfl)
                        have hb7_ := hall 7 (by kernel_rfl)
                        have hb8_ := hall 8 (by kernel_rfl)
                        have hb9_ := hall 9 (by kernel_rfl)
                        have hb10_ := hall 10 (by kernel_rfl)
                        have hb11_ := hall 11 (by kernel_rfl)
                        have hb12_ := hall 12 (by kernel_rfl)
                        have hb13_ := hall 13 (by kernel_rfl)
                        have hb14_ := hall 14 (by kernel_rfl)
                        subst ha
                        obtain rfl := Q_X5_ hb5_
                        obtain rfl := Q_X6_ hb6_
                        obtain rfl := Q_X7_ hb7_
                        obtain rfl := Q_X10_ hb10_
                        obtain rfl := Q_X11_ hb11_
                        simp only [putSel, hb0_, hb4_, hb5_, hb6_, hb7_, hb8_, hb9_, hb10_, hb11_, hb12_, hb13_, hb14_, if_true, Act.put, List.setIfInBounds_toArray, List.set_cons_zero, List.set_cons_succ]
                        clear Q_HO_240001
                        clear Q_HO_242001
                        have HO_7 := Aside0.mk Q_HO_7
                        clear Q_HO_7
                        have BK224 := Aside0.mk Q_BK224
                        clear Q_BK224
                        have BK239 := Aside0.mk Q_BK239
                        clear Q_BK239
                        have BK240 := Aside0.mk Q_BK240
                        clear Q_BK240
                        have BK241 := Aside0.mk Q_BK241
                        clear Q_BK241
                        have HB := Aside0.mk Q_HB
                        clear Q_HB
                        have HR247 := Aside0.mk Q_HR247
                        clear Q_HR247
                        have NB257_256 := Aside0.mk (Q_NB257_256 hb10_ hb11_)
                        clear Q_NB257_256
                        have NB256_257 := Aside0.mk (Q_NB256_257 hb10_ hb11_)
                        clear Q_NB256_257
                        have HO251 := Aside0.mk (Q_HO251 hb5_)
                        clear Q_HO251
                        have HO_240001 := Aside0.mk (Q_HO_240001_e5 hb5_)
                        clear Q_HO_240001_e5
                        have HO_242001 := Aside0.mk (Q_HO_242001_e5 hb5_)
                        clear Q_HO_242001_e5
                        clear Q_BK256
                        have GW256 := Aside0.mk (Q_GW256 hb10_)
                        clear Q_GW256
                        have GE256 := Aside0.mk (Q_GE256 hb10_)
                        clear Q_GE256
                        have NB224_256 := Aside0.mk (Q_NB224_256 hb10_)
                        clear Q_NB224_256
                        have NB256_224 := Aside0.mk (Q_NB256_224 hb10_)
                        clear Q_NB256_224
                        have NB239_256 := Aside0.mk (Q_NB239_256 hb10_)
                        clear Q_NB239_256
                        have NB256_239 := Aside0.mk (Q_NB256_239 hb10_)
                        clear Q_NB256_239
                        have NB240_256 := Aside0.mk (Q_NB240_256 hb10_)
                        clear Q_NB240_256
                        have NB256_240 := Aside0.mk (Q_NB256_240 hb10_)
                        clear Q_NB256_240
                        have NB241_256 := Aside0.mk (Q_NB241_256 hb10_)
                        clear Q_NB241_256
                        have NB256_241 := Aside0.mk (Q_NB256_241 hb10_)
                        clear Q_NB256_241
                        clear Q_BK257
                        have GW257 := Aside0.mk (Q_GW257 hb11_)
                        clear Q_GW257
                        have GE257 := Aside0.mk (Q_GE257 hb11_)
                        clear Q_GE257
                        have NB224_257 := Aside0.mk (Q_NB224_257 hb11_)
                        clear Q_NB224_257
                        have NB257_224 := Aside0.mk (Q_NB257_224 hb11_)
                        clear Q_NB257_224
                        have NB239_257 := Aside0.mk (Q_NB239_257 hb11_)
                        clear Q_NB239_257
                        have NB257_239 := Aside0.mk (Q_NB257_239 hb11_)
                        clear Q_NB257_239
                        have NB240_257 := Aside0.mk (Q_NB240_257 hb11_)
                        clear Q_NB240_257
                        have NB257_240 := Aside0.mk (Q_NB257_240 hb11_)
                        clear Q_NB257_240
                        have NB241_257 := Aside0.mk (Q_NB241_257 hb11_)
                        clear Q_NB241_257
                        have NB257_241 := Aside0.mk (Q_NB257_241 hb11_)
                        clear Q_NB257_241
                        have BK256 := Aside0.mk (Q_BK256_e12 hb12_)
                        clear Q_BK256_e12
                        have BK257 := Aside0.mk (Q_BK257_e13 hb13_)
                        clear Q_BK257_e13
                        clear hall hb0_ hb4_ hb5_ hb6_ hb7_ hb8_ hb9_ hb10_ hb11_ hb12_ hb13_ hb14_
                        obtain ⟨Ao62, co62, eo62⟩ := Kd.R_slice HO_242001.out
                        subst eo62
                        obtain ⟨Ao63, co63, eo63⟩ := Kd.R_slice HO251.out
                        subst eo63
                        try go_wp2
                        have n0_ := Aside0.mk (Kd.R_drew HO_7.out)
                        have n1_ := Aside0.mk (Kd.R_drew HO_240001.out)
                        have n2_ := Aside0.mk (Kd.R_drew HO_242001.out)
                        have n3_ := Aside0.mk (Kd.R_drew HO251.out)
                        have n4_ := Aside0.mk (blk_drew BK224.out)
                        have n5_ := Aside0.mk (blk_drew BK239.out)
                        have n6_ := Aside0.mk (blk_drew BK240.out)
                        have n7_ := Aside0.mk (blk_drew BK241.out)
                        have n8_ := Aside0.mk (blk_drew BK256.out)
                        have n9_ := Aside0.mk (blk_drew BK257.out)
                        have n10_ := Aside0.mk (Kd.C_drew HR247.out)
                        have n11_ := Aside0.mk (below_drew1 HB.out)
                        clear HO_7
                        clear HO_240001
                        clear HO_242001
                        clear HO251
                        clear BK224
                        clear BK239
                        clear BK240
                        clear BK241
                        clear BK256
                        clear BK257
                        clear HR247
                        clear HB
                        have HO_7 := n0_
                        have HO_240001 := n1_
                        have HO_242001 := n2_
                        have HO251 := n3_
                        have BK224 := n4_
                        have BK239 := n5_
                        have BK240 := n6_
                        have BK241 := n7_
                        have BK256 := n8_
                        have BK257 := n9_
                        have HR247 := n10_
                        have HB := n11_
                        clear n0_ n1_ n2_ n3_ n4_ n5_ n6_ n7_ n8_ n9_ n10_ n11_
                        refine start_ (n := 8) (S := fun w' => True) (ds := []) #[false, false, false, false, false, false, false, false] (by kernel_rfl) rfl rfl trivial (fun hHeld => ?_); refine with_tabW soundservicelaw08_LimiterPieces.tab20 soundservicelaw08_LimiterPieces.bits20 (fun HT_ HW_ => ?_)
                        generalize w61.drew = w64 at HO_7 HO_240001 HO_242001 HO251 BK224 BK239 BK240 BK241 BK256 BK257 HR247 HB hHeld ⊢
                        refine pure_ (i := 4) (N := some 80) (v := ?_) (a' := ?_) #[false, false, false, false, true, false, false, false] rfl rfl (any_of HT_.out (by kernel_rfl)) (fun _ _ _ h => h) (Or.inl ⟨by rfl, ?_⟩) ?_ ?_
                        rotate_left
                        · intro w'
                          go_simp
                          with_reducible rfl
                        rotate_left
                        · simp only [Act.put, List.setIfInBounds_toArray, List.set_cons_zero, List.set_cons_succ, i64_w, i32_w]
                          rfl
                        refine inv_at [0, 1, 2, 3, 5, 6, 7] (fun a0_ b a w' => ∃ (v260 : Value) (m2_ : Value), a = putSel a0_ b [(0, 76, .agg #[.int .i64 x242000_1, .slice Ao62 x242001_1.length co62]), (1, 77, .agg #[.int .i64 t248, .slice Ao63 t249.length co63]), (2, 78, m2_), (3, 79, .agg #[.int .i64 t252, .int .i64 t253, .int .i64 t254]), (7, 12, .int .i64 x14_39)] ∧ (b 2 = false → Kd.R (Kd.int .i32) 21 w' w.heap.size (fun k_ => some k_ ≠ (.slice Ao29 t232.length co29 : Value).ownBlock ∧ some k_ ≠ (.slice Ao62 x242001_1.length co62 : Value).ownBlock) (.slice Ao63 t249.length co63) t249) ∧ (b 2 = false → Kd.R (Kd.int .i32) 21 w' w.heap.size (fun k_ => some k_ ≠ (.slice Ao63 t249.length co63 : Value).ownBlock ∧ some k_ ≠ (.slice Ao62 x242001_1.length co62 : Value).ownBlock) (.slice Ao29 t232.length co29) t232) ∧ (b 2 = false → Kd.R (Kd.int .i32) 21 w' w.heap.size (fun k_ => some k_ ≠ (.slice Ao63 t249.length co63 : Value).ownBlock ∧ some k_ ≠ (.slice Ao29 t232.length co29 : Value).ownBlock) (.slice Ao62 x242001_1.length co62) x242001_1) ∧ (Kd.R (Kd.int .i64) 2 w' w.heap.size (fun _ => True) (.slice Ao21 t227.length co21) t227) ∧ (b 6 = false → w'.heap[gb224]? = some (.cells #[.int .i64 x225000_1, .int .i64 x225001_1, .int .i64 x225002_1] 23 (0, 0))) ∧ (w'.heap[gb239]? = some (.cells #[.int .i64 t231, .slice Ao29 t232.length co29] 36 (0, 0))) ∧ (w'.heap[gb240]? = some (.cells #[.int .i64 t235, .int .i64 t236, .int .i64 t237] 23 (0, 0))) ∧ (b 5 = false → w'.heap[gb241]? = some (.cells #[.int .i64 x242000_1, .slice Ao62 x242001_1.length co62] 36 (0, 0))) ∧ (w'.heap[gb256]? = some (.cells #[.int .i64 t248, .slice Ao63 t249.length co63] 36 (0, 0))) ∧ (w'.heap[gb257]? = some (.cells #[.int .i64 t252, .int .i64 t253, .int .i64 t254] 23 (0, 0))) ∧ (Kd.C (Kd.int .i64) w' A51 y244.length y244) ∧ (Below w.heap.size w w') ∧ (b 2 = true → Kd.R (Kd.int .i32) 21 w' w.heap.size (fun k_ => some k_ ≠ (v260 : Value).ownBlock ∧ some k_ ≠ (.slice Ao29 t232.length co29 : Value).ownBlock ∧ some k_ ≠ (.slice Ao62 x242001_1.length co62 : Value).ownBlock) (.slice Ao63 t249.length co63) t249) ∧ (b 2 = true → Kd.R (Kd.int .i32) 21 w' w.heap.size (fun k_ => some k_ ≠ (.slice Ao63 t249.length co63 : Value).ownBlock ∧ some k_ ≠ (.slice Ao29 t232.length co29 : Value).ownBlock ∧ some k_ ≠ (.slice Ao62 x242001_1.length co62 : Value).ownBlock) v260 t259) ∧ (b 2 = true → Kd.R (Kd.int .i32) 21 w' w.heap.size (fun k_ => some k_ ≠ (.slice Ao63 t249.length co63 : Value).ownBlock ∧ some k_ ≠ (v260 : Value).ownBlock ∧ some k_ ≠ (.slice Ao62 x242001_1.length co62 : Value).ownBlock) (.slice Ao29 t232.length co29) t232) ∧ (b 2 = true → Kd.R (Kd.int .i32) 21 w' w.heap.size (fun k_ => some k_ ≠ (.slice Ao63 t249.length co63 : Value).ownBlock ∧ some k_ ≠ (v260 : Value).ownBlock ∧ some k_ ≠ (.slice Ao29 t232.length co29 : Value).ownBlock) (.slice Ao62 x242001_1.length co62) x242001_1) ∧ (b 5 = true → w'.heap[gb241]? = some (.cells #[.int .i64 t258, v260] 36 (0, 0))) ∧ (b 6 = true → w'.heap[gb224]? = some (.cells #[.int .i64 t252, .int .i64 t253, .int .i64 t254] 23 (0, 0))) ∧ (b 2 = true → (m2_ : Value) = .agg #[.int .i64 t258, v260])) HT_.out HW_.out (by kernel_rfl) (by kernel_rfl) ?_ ?_ ?_
                        · exact ⟨.bool false, .bool false, by simp only [putSel, Bool.false_eq_true, if_false], fun _ => (by first | exact HO251.out | exact ((by (with_reducible repeat (first | apply Kd.R_alloc | apply Kd.R_drewN | apply Kd.R_drew)); exact HO251.out))), fun _ => (by first | exact HO_240001.out | exact ((by (with_reducible repeat (first | apply Kd.R_alloc | apply Kd.R_drewN | apply Kd.R_drew)); exact HO_240001.out))), fun _ => (by first | exact HO_242001.out | exact ((by (with_reducible repeat (first | apply Kd.R_alloc | apply Kd.R_drewN | apply Kd.R_drew)); exact HO_242001.out))), (by first | exact HO_7.out | exact ((by (with_reducible repeat (first | apply Kd.R_alloc | apply Kd.R_drewN | apply Kd.R_drew)); exact HO_7.out))), fun _ => BK224.out, BK239.out, BK240.out, fun _ => BK241.out, BK256.out, BK257.out, (by first | exact HR247.out | exact ((by repeat (first | (with_reducible exact HR247.out) | (with_reducible refine Kd.C_alloc ?_ _) | (with_reducible refine Kd.C_drewN ?_ _) | (with_reducible refine Kd.C_drew ?_) | exact HR247.out)))), HB.out, fun h_ => absurd h_ (by decide), fun h_ => absurd h_ (by decide), fun h_ => absurd h_ (by decide), fun h_ => absurd h_ (by decide), fun h_ => absurd h_ (by decide), fun h_ => absurd h_ (by decide), fun h_ => absurd h_ (by decide)⟩
                        · skip
                          clear BK224 BK239 BK240 BK241 BK256 BK257 HB HO251 HO_240001 HO_242001 HO_7 HR247
                          refine steps_cons ?_ ?_
                          · rintro b a w' ⟨v260, m2_, ha, Q_HO251, Q_HO_240001, Q_HO_242001, Q_HO_7, Q_BK224, Q_BK239, Q_BK240, Q_BK241, Q_BK256, Q_BK257, Q_HR247, Q_HB, Q_HO251_e2, Q_HO261, Q_HO_240001_e2, Q_HO_242001_e2, Q_BK241_e5, Q_BK224_e6, Q_X2_⟩ hb_ hon hoff
                            refine ⟨_, rfl, fun K hK => ?_⟩
                            have e11 : a.tmps[11]? = some (.pointer (some ⟨gb241, 0, none⟩)) := by rw [ha]; exact (putSel_off rfl).trans rfl
                            replace ha := Aside0.mk ha
                            have HO251 := Aside0.mk (Q_HO251 (hoff 2 (by kernel_rfl)))
                            have HO_240001 := Aside0.mk (Q_HO_240001 (hoff 2 (by kernel_rfl)))
                            have HO_242001 := Aside0.mk (Q_HO_242001 (hoff 2 (by kernel_rfl)))
                            have HO_7 := Aside0.mk Q_HO_7
                            have BK224 := Aside0.mk (Q_BK224 (hoff 6 (by kernel_rfl)))
                            have BK239 := Aside0.mk Q_BK239
                            have BK240 := Aside0.mk Q_BK240
                            have BK241 := Aside0.mk (Q_BK241 (hoff 5 (by kernel_rfl)))
                            have BK256 := Aside0.mk Q_BK256
                            have BK257 := Aside0.mk Q_BK257
                            have HR247 := Aside0.mk Q_HR247
                            have HB := Aside0.mk Q_HB
                            have hc0_ : w'.cell? ⟨gb241, 0, none⟩ = some (.int .i64 x242000_1) := (blk_cell BK241.out 0).trans rfl
                            have hc1_ : w'.cell? ⟨gb241, 1, none⟩ = some (.slice Ao62 x242001_1.length co62) := (blk_cell BK241.out 1).trans rfl
                            refine value_ (w1 := w') (v := .agg #[.int .i64 x242000_1, .slice Ao62 x242001_1.length co62]) (by rfl) rfl ?_ ?_
                            · go_simp
                              (try simp only [i64_w])
                              try rfl
                            refine hK.out _ _ ⟨v260, m2_, (by rw [ha.out]; exact putSel_upk 0 hb_ rfl rfl rfl), Q_HO251, Q_HO_240001, Q_HO_242001, Q_HO_7, Q_BK224, Q_BK239, Q_BK240, Q_BK241, Q_BK256, Q_BK257, Q_HR247, Q_HB, fun h0_ => absurd ((hoff 2 (by kernel_rfl)).symm.trans h0_) (by decide), fun h0_ => absurd ((hoff 2 (by kernel_rfl)).symm.trans h0_) (by decide), fun h0_ => absurd ((hoff 2 (by kernel_rfl)).symm.trans h0_) (by decide), fun h0_ => absurd ((hoff 2 (by kernel_rfl)).symm.trans h0_) (by decide), fun h0_ => absurd ((hoff 5 (by kernel_rfl)).symm.trans h0_) (by decide), fun h0_ => absurd ((hoff 6 (by kernel_rfl)).symm.trans h0_) (by decide), fun h0_ => absurd ((hoff 2 (by kernel_rfl)).symm.trans h0_) (by decide)⟩
                          refine steps_cons ?_ ?_
                          · rintro b a w' ⟨v260, m2_, ha, Q_HO251, Q_HO_240001, Q_HO_242001, Q_HO_7, Q_BK224, Q_BK239, Q_BK240, Q_BK241, Q_BK256, Q_BK257, Q_HR247, Q_HB, Q_HO251_e2, Q_HO261, Q_HO_240001_e2, Q_HO_242001_e2, Q_BK241_e5, Q_BK224_e6, Q_X2_⟩ hb_ hon hoff
                            refine ⟨_, rfl, fun K hK => ?_⟩
                            have e15 : a.tmps[15]? = some (.pointer (some ⟨gb256, 0, none⟩)) := by rw [ha]; exact (putSel_off rfl).trans rfl
                            replace ha := Aside0.mk ha
                            have HO251 := Aside0.mk (Q_HO251 (hoff 2 (by kernel_rfl)))
                            have HO_240001 := Aside0.mk (Q_HO_240001 (hoff 2 (by kernel_rfl)))
                            have HO_242001 := Aside0.mk (Q_HO_242001 (hoff 2 (by kernel_rfl)))
                            have HO_7 := Aside0.mk Q_HO_7
                            have BK224 := Aside0.mk (Q_BK224 (hoff 6 (by kernel_rfl)))
                            have BK239 := Aside0.mk Q_BK239
                            have BK240 := Aside0.mk Q_BK240
                            have BK241 := Aside0.mk (Q_BK241 (hoff 5 (by kernel_rfl)))
                            have BK256 := Aside0.mk Q_BK256
                            have BK257 := Aside0.mk Q_BK257
                            have HR247 := Aside0.mk Q_HR247
                            have HB := Aside0.mk Q_HB
                            have hc0_ : w'.cell? ⟨gb256, 0, none⟩ = some (.int .i64 t248) := (blk_cell BK256.out 0).trans rfl
                            have hc1_ : w'.cell? ⟨gb256, 1, none⟩ = some (.slice Ao63 t249.length co63) := (blk_cell BK256.out 1).trans rfl
                            refine value_ (w1 := w') (v := .agg #[.int .i64 t248, .slice Ao63 t249.length co63]) (by rfl) rfl ?_ ?_
                            · go_simp
                              (try simp only [i64_w])
                              try rfl
                            refine hK.out _ _ ⟨v260, m2_, (by rw [ha.out]; exact putSel_upk 1 hb_ rfl rfl rfl), Q_HO251, Q_HO_240001, Q_HO_242001, Q_HO_7, Q_BK224, Q_BK239, Q_BK240, Q_BK241, Q_BK256, Q_BK257, Q_HR247, Q_HB, fun h0_ => absurd ((hoff 2 (by kernel_rfl)).symm.trans h0_) (by decide), fun h0_ => absurd ((hoff 2 (by kernel_rfl)).symm.trans h0_) (by decide), fun h0_ => absurd ((hoff 2 (by kernel_rfl)).symm.trans h0_) (by decide), fun h0_ => absurd ((hoff 2 (by kernel_rfl)).symm.trans h0_) (by decide), fun h0_ => absurd ((hoff 5 (by kernel_rfl)).symm.trans h0_) (by decide), fun h0_ => absurd ((hoff 6 (by kernel_rfl)).symm.trans h0_) (by decide), fun h0_ => absurd ((hoff 2 (by kernel_rfl)).symm.trans h0_) (by decide)⟩
                          refine steps_cons ?_ ?_
                          · rintro b a w' ⟨v260, m2_, ha, Q_HO251, Q_HO_240001, Q_HO_242001, Q_HO_7, Q_BK224, Q_BK239, Q_BK240, Q_BK241, Q_BK256, Q_BK257, Q_HR247, Q_HB, Q_HO251_e2, Q_HO261, Q_HO_240001_e2, Q_HO_242001_e2, Q_BK241_e5, Q_BK224_e6, Q_X2_⟩ hb_ hon hoff
                            refine ⟨_, rfl, fun K hK => ?_⟩
                            have e76 : a.tmps[76]? = some (.agg #[.int .i64 x242000_1, .slice Ao62 x242001_1.length co62]) := by rw [ha]; exact putSel_on (e := (0, 76, .agg #[.int .i64 x242000_1, .slice Ao62 x242001_1.length co62])) 0 rfl rfl (hon 0 (by kernel_rfl)) rfl
                            have e77 : a.tmps[77]? = some (.agg #[.int .i64 t248, .slice Ao63 t249.length co63]) := by rw [ha]; exact putSel_on (e := (1, 77, .agg #[.int .i64 t248, .slice Ao63 t249.length co63])) 1 rfl rfl (hon 1 (by kernel_rfl)) rfl
                            replace ha := Aside0.mk ha
                            have HO251 := Aside0.mk (Q_HO251 hb_)
                            have HO_240001 := Aside0.mk (Q_HO_240001 hb_)
                            have HO_242001 := Aside0.mk (Q_HO_242001 hb_)
                            have HO_7 := Aside0.mk Q_HO_7
                            have BK224 := Aside0.mk (Q_BK224 (hoff 6 (by kernel_rfl)))
                            have BK239 := Aside0.mk Q_BK239
                            have BK240 := Aside0.mk Q_BK240
                            have BK241 := Aside0.mk (Q_BK241 (hoff 5 (by kernel_rfl)))
                            have BK256 := Aside0.mk Q_BK256
                            have BK257 := Aside0.mk Q_BK257
                            have HR247 := Aside0.mk Q_HR247
                            have HB := Aside0.mk Q_HB
                            refine goes_ Try.func22 (by kernel_rfl) rfl #[.agg #[.int .i64 x242000_1, .slice Ao62 x242001_1.length co62], .agg #[.int .i64 t248, .slice Ao63 t249.length co63]] (by rfl) rfl rfl (by first | (simp only [List.map_toArray, List.map_cons, List.map_nil, Act.eval, Array.getD_eq_getD_getElem?, Option.getD_some, e76, e77]; done) | (simp only [List.map_toArray, List.map_cons, List.map_nil, Act.eval, Array.getD_eq_getD_getElem?, Option.getD_some, e76, e77]; rfl)) ?_
                            with_reducible refine (soundserviceref04_Join.calls x242000_1 _ _ x242001_1 t248 _ _ t249 t258 t259 _ ?side1 ?side2 ?side3 ?side4 A49.out).mono ?_
                            (case side1 => repeat (first | exact (Kd.R_reads' HO_242001.out).2.2 | (with_reducible refine Kd.C_alloc ?_ _) | (with_reducible refine Kd.C_drewN ?_ _) | (with_reducible refine Kd.C_drew ?_)))
                            (case side2 => exact (Kd.R_reads' HO_242001.out).2.1)
                            (case side3 => repeat (first | exact (Kd.R_reads' HO251.out).2.2 | (with_reducible refine Kd.C_alloc ?_ _) | (with_reducible refine Kd.C_drewN ?_ _) | (with_reducible refine Kd.C_drew ?_)))
                            (case side4 => exact (Kd.R_reads' HO251.out).2.1)
                            rintro e w65 ⟨v260, rfl, ho0, hb⟩
                            refine ⟨_, rfl, ?_⟩
                            have n0_ := Aside0.mk (Kd.R_below (by (with_reducible repeat (first | apply Kd.R_alloc | apply Kd.R_drewN | apply Kd.R_drew)); exact HO_7.out) hb)
                            have n1_ := Aside0.mk (Kd.R_elder' (by (with_reducible repeat (first | apply Kd.R_alloc | apply Kd.R_drewN | apply Kd.R_drew)); exact HO_240001.out) (Kd.R_base ho0) hb)
                            have n2_ := Aside0.mk (Kd.R_elder' (by (with_reducible repeat (first | apply Kd.R_alloc | apply Kd.R_drewN | apply Kd.R_drew)); exact HO_242001.out) (Kd.R_base ho0) hb)
                            have n3_ := Aside0.mk (Kd.R_elder' (by (with_reducible repeat (first | apply Kd.R_alloc | apply Kd.R_drewN | apply Kd.R_drew)); exact HO251.out) (Kd.R_base ho0) hb)
                            have n4_ := Aside0.mk (Kd.R_lower (Kd.R_new' (Kd.R_new' (Kd.R_new' ho0 (Kd.R_lt (by (with_reducible repeat (first | apply Kd.R_alloc | apply Kd.R_drewN | apply Kd.R_drew)); exact HO_240001.out))) (Kd.R_lt (by (with_reducible repeat (first | apply Kd.R_alloc | apply Kd.R_drewN | apply Kd.R_drew)); exact HO_242001.out))) (Kd.R_lt (by (with_reducible repeat (first | apply Kd.R_alloc | apply Kd.R_drewN | apply Kd.R_drew)); exact HO251.out))) (below_size (by repeat (first | (with_reducible first | exact HB.out | apply below_alloc | apply pw_below_drewN | apply below_drew1 | refine below_set ?_ GE224.out | refine below_set ?_ GE239.out | refine below_set ?_ GE240.out | refine below_set ?_ GE241.out | refine below_set ?_ GE256.out | refine below_set ?_ GE257.out) | exact HB.out))))
                            have n5_ := Aside0.mk (blk_below (g := gb224) (o := .cells #[.int .i64 x225000_1, .int .i64 x225001_1, .int .i64 x225002_1] 23 (0, 0)) (by (with_reducible repeat (first | refine blk_drewN ?_ _ | refine blk_drew ?_ | refine blk_alloc ?_ _)); exact BK224.out) hb)
                            have n6_ := Aside0.mk (blk_below (g := gb239) (o := .cells #[.int .i64 t231, .slice Ao29 t232.length co29] 36 (0, 0)) (by (with_reducible repeat (first | refine blk_drewN ?_ _ | refine blk_drew ?_ | refine blk_alloc ?_ _)); exact BK239.out) hb)
                            have n7_ := Aside0.mk (blk_below (g := gb240) (o := .cells #[.int .i64 t235, .int .i64 t236, .int .i64 t237] 23 (0, 0)) (by (with_reducible repeat (first | refine blk_drewN ?_ _ | refine blk_drew ?_ | refine blk_alloc ?_ _)); exact BK240.out) hb)
                            have n8_ := Aside0.mk (blk_below (g := gb241) (o := .cells #[.int .i64 x242000_1, .slice Ao62 x242001_1.length co62] 36 (0, 0)) (by (with_reducible repeat (first | refine blk_drewN ?_ _ | refine blk_drew ?_ | refine blk_alloc ?_ _)); exact BK241.out) hb)
                            have n9_ := Aside0.mk (Kd.C_below (by repeat (first | (with_reducible exact HR247.out) | (with_reducible refine Kd.C_alloc ?_ _) | (with_reducible refine Kd.C_drewN ?_ _) | (with_reducible refine Kd.C_drew ?_) | exact HR247.out)) hb)
                            have n10_ := Aside0.mk (blk_below (g := gb256) (o := .cells #[.int .i64 t248, .slice Ao63 t249.length co63] 36 (0, 0)) (by (with_reducible repeat (first | refine blk_drewN ?_ _ | refine blk_drew ?_ | refine blk_alloc ?_ _)); exact BK256.out) hb)
                            have n11_ := Aside0.mk (blk_below (g := gb257) (o := .cells #[.int .i64 t252, .int .i64 t253, .int .i64 t254] 23 (0, 0)) (by (with_reducible repeat (first | refine blk_drewN ?_ _ | refine blk_drew ?_ | refine blk_alloc ?_ _)); exact BK257.out) hb)
                            have n12_ := Aside0.mk (below_step (by repeat (first | (with_reducible first | exact HB.out | apply below_alloc | apply pw_below_drewN | apply below_drew1 | refine below_set ?_ GE224.out | refine below_set ?_ GE239.out | refine below_set ?_ GE240.out | refine below_set ?_ GE241.out | refine below_set ?_ GE256.out | refine below_set ?_ GE257.out) | exact HB.out)) hb)
                            clear HO_7
                            clear HO_240001
                            clear HO_242001
                            clear HO251
                            clear BK224
                            clear BK239
                            clear BK240
                            clear BK241
                            clear HR247
                            clear BK256
                            clear BK257
                            clear HB
                            have HO_7 := n0_
                            have HO_240001 := n1_
                            have HO_242001 := n2_
                            have HO251 := n3_
                            have HO261 := n4_
                            have BK224 := n5_
                            have BK239 := n6_
                            have BK240 := n7_
                            have BK241 := n8_
                            have HR247 := n9_
                            have BK256 := n10_
                            have BK257 := n11_
                            have HB := n12_
                            clear n0_ n1_ n2_ n3_ n4_ n5_ n6_ n7_ n8_ n9_ n10_ n11_ n12_
                            (try clear hb)
                            (try clear hb2)
                            (try clear hk)
                            (try clear hi)
                            (try clear ho0)
                            refine hK.out _ _ ⟨v260, (.agg #[.int .i64 t258, v260]), (by rw [ha.out]; exact putSel_upk 2 hb_ rfl rfl rfl), fun h0_ => absurd ((up_self b 2).symm.trans h0_) (by decide), fun h0_ => absurd ((up_self b 2).symm.trans h0_) (by decide), fun h0_ => absurd ((up_self b 2).symm.trans h0_) (by decide), (by (with_reducible repeat (first | apply Kd.R_alloc | apply Kd.R_drewN | apply Kd.R_drew)); exact HO_7.out), fun _ => (by (with_reducible repeat (first | refine blk_drewN ?_ _ | refine blk_drew ?_ | refine blk_alloc ?_ _)); exact BK224.out), (by (with_reducible repeat (first | refine blk_drewN ?_ _ | refine blk_drew ?_ | refine blk_alloc ?_ _)); exact BK239.out), (by (with_reducible repeat (first | refine blk_drewN ?_ _ | refine blk_drew ?_ | refine blk_alloc ?_ _)); exact BK240.out), fun _ => (by (with_reducible repeat (first | refine blk_drewN ?_ _ | refine blk_drew ?_ | refine blk_alloc ?_ _)); exact BK241.out), (by (with_reducible repeat (first | refine blk_drewN ?_ _ | refine blk_drew ?_ | refine blk_alloc ?_ _)); exact BK256.out), (by (with_reducible repeat (first | refine blk_drewN ?_ _ | refine blk_drew ?_ | refine blk_alloc ?_ _)); exact BK257.out), (by repeat (first | (with_reducible exact HR247.out) | (with_reducible refine Kd.C_alloc ?_ _) | (with_reducible refine Kd.C_drewN ?_ _) | (with_reducible refine Kd.C_drew ?_) | exact HR247.out)), (by repeat (first | (with_reducible first | exact HB.out | apply below_alloc | apply pw_below_drewN | apply below_drew1 | refine below_set ?_ GE224.out | refine below_set ?_ GE239.out | refine below_set ?_ GE240.out | refine below_set ?_ GE241.out | refine below_set ?_ GE256.out | refine below_set ?_ GE257.out) | exact HB.out)), fun _ => (by (with_reducible repeat (first | apply Kd.R_alloc | apply Kd.R_drewN | apply Kd.R_drew)); exact Kd.R_mono HO251.out (fun _ hk => ⟨hk.2, ⟨hk.1.1, hk.1.2⟩⟩)), fun _ => (by (with_reducible repeat (first | apply Kd.R_alloc | apply Kd.R_drewN | apply Kd.R_drew)); exact Kd.R_mono HO261.out (fun _ hk => ⟨hk.2, ⟨hk.1.1.2, hk.1.2⟩⟩)), fun _ => (by (with_reducible repeat (first | apply Kd.R_alloc | apply Kd.R_drewN | apply Kd.R_drew)); exact Kd.R_mono HO_240001.out (fun _ hk => ⟨hk.1.1, ⟨hk.2, hk.1.2⟩⟩)), fun _ => (by (with_reducible repeat (first | apply Kd.R_alloc | apply Kd.R_drewN | apply Kd.R_drew)); exact Kd.R_mono HO_242001.out (fun _ hk => ⟨hk.1.1, ⟨hk.2, hk.1.2⟩⟩)), fun h0_ => absurd ((hoff 5 (by kernel_rfl)).symm.trans h0_) (by decide), fun h0_ => absurd ((hoff 6 (by kernel_rfl)).symm.trans h0_) (by decide), fun _ => rfl⟩
                          refine steps_cons ?_ ?_
                          · rintro b a w' ⟨v260, m2_, ha, Q_HO251, Q_HO_240001, Q_HO_242001, Q_HO_7, Q_BK224, Q_BK239, Q_BK240, Q_BK241, Q_BK256, Q_BK257, Q_HR247, Q_HB, Q_HO251_e2, Q_HO261, Q_HO_240001_e2, Q_HO_242001_e2, Q_BK241_e5, Q_BK224_e6, Q_X2_⟩ hb_ hon hoff
                            refine ⟨_, rfl, fun K hK => ?_⟩
                            have e16 : a.tmps[16]? = some (.pointer (some ⟨gb257, 0, none⟩)) := by rw [ha]; exact (putSel_off rfl).trans rfl
                            replace ha := Aside0.mk ha
                            have HO_7 := Aside0.mk Q_HO_7
                            have BK224 := Aside0.mk (Q_BK224 (hoff 6 (by kernel_rfl)))
                            have BK239 := Aside0.mk Q_BK239
                            have BK240 := Aside0.mk Q_BK240
                            have BK256 := Aside0.mk Q_BK256
                            have BK257 := Aside0.mk Q_BK257
                            have HR247 := Aside0.mk Q_HR247
                            have HB := Aside0.mk Q_HB
                            have hc0_ : w'.cell? ⟨gb257, 0, none⟩ = some (.int .i64 t252) := (blk_cell BK257.out 0).trans rfl
                            have hc1_ : w'.cell? ⟨gb257, 1, none⟩ = some (.int .i64 t253) := (blk_cell BK257.out 1).trans rfl
                            have hc2_ : w'.cell? ⟨gb257, 2, none⟩ = some (.int .i64 t254) := (blk_cell BK257.out 2).trans rfl
                            refine value_ (w1 := w') (v := .agg #[.int .i64 t252, .int .i64 t253, .int .i64 t254]) (by rfl) rfl ?_ ?_
                            · go_simp
                              (try simp only [i64_w])
                              try rfl
                            refine hK.out _ _ ⟨v260, m2_, (by rw [ha.out]; exact putSel_upk 3 hb_ rfl rfl rfl), Q_HO251, Q_HO_240001, Q_HO_242001, Q_HO_7, Q_BK224, Q_BK239, Q_BK240, Q_BK241, Q_BK256, Q_BK257, Q_HR247, Q_HB, Q_HO251_e2, Q_HO261, Q_HO_240001_e2, Q_HO_242001_e2, Q_BK241_e5, fun h0_ => absurd ((hoff 6 (by kernel_rfl)).symm.trans h0_) (by decide), Q_X2_⟩
                          refine steps_cons ?_ ?_
                          · rintro b a w' ⟨v260, m2_, ha, Q_HO251, Q_HO_240001, Q_HO_242001, Q_HO_7, Q_BK224, Q_BK239, Q_BK240, Q_BK241, Q_BK256, Q_BK257, Q_HR247, Q_HB, Q_HO251_e2, Q_HO261, Q_HO_240001_e2, Q_HO_242001_e2, Q_BK241_e5, Q_BK224_e6, Q_X2_⟩ hb_ hon hoff
                            refine ⟨_, rfl, fun K hK => ?_⟩
                            have e11 : a.tmps[11]? = some (.pointer (some ⟨gb241, 0, none⟩)) := by rw [ha]; exact (putSel_off rfl).trans rfl
                            have e78 : a.tmps[78]? = some (m2_) := by rw [ha]; exact putSel_on (e := (2, 78, m2_)) 2 rfl rfl (hon 2 (by kernel_rfl)) rfl
                            rw [Q_X2_ (hon 2 (by kernel_rfl))] at e78
                            replace ha := Aside0.mk ha
                            have HO_7 := Aside0.mk Q_HO_7
                            have BK224 := Aside0.mk (Q_BK224 (hoff 6 (by kernel_rfl)))
                            have BK239 := Aside0.mk Q_BK239
                            have BK240 := Aside0.mk Q_BK240
                            have BK241 := Aside0.mk (Q_BK241 hb_)
                            have BK256 := Aside0.mk Q_BK256
                            have BK257 := Aside0.mk Q_BK257
                            have HR247 := Aside0.mk Q_HR247
                            have HB := Aside0.mk Q_HB
                            have HO251 := Aside0.mk (Q_HO251_e2 (hon 2 (by kernel_rfl)))
                            have HO261 := Aside0.mk (Q_HO261 (hon 2 (by kernel_rfl)))
                            have HO_240001 := Aside0.mk (Q_HO_240001_e2 (hon 2 (by kernel_rfl)))
                            have HO_242001 := Aside0.mk (Q_HO_242001_e2 (hon 2 (by kernel_rfl)))
                            obtain ⟨Ao68, co68, eo68⟩ := Kd.R_slice HO261.out
                            (first | subst eo68 | (injection eo68 with f1_ f2_ f3_; have f4_ := f1_.symm; have f5_ := f3_.symm; clear f1_ f2_ f3_; subst f4_; subst f5_))
                            have hs67 : w'.cell? ⟨gb241, 0, none⟩ = some (.int .i64 x242000_1) := (blk_cell BK241.out 0).trans rfl
                            have hfs67 := blk_frozen BK241.out 0
                            have hns67_0 := NB224_241.out
                            have hns67_1 := NB239_241.out
                            have hns67_2 := NB240_241.out
                            have hns67_4 := NB256_241.out
                            have hns67_5 := NB257_241.out
                            have hms67_0 := NB241_224.out
                            have hms67_1 := NB241_239.out
                            have hms67_2 := NB241_240.out
                            have hms67_4 := NB241_256.out
                            have hms67_5 := NB241_257.out
                            have hs69 : w'.cell? ⟨gb241, 1, none⟩ = some (.slice Ao62 x242001_1.length co62) := (blk_cell BK241.out 1).trans rfl
                            have hfs69 := blk_frozen BK241.out 1
                            have hns69_0 := NB224_241.out
                            have hns69_1 := NB239_241.out
                            have hns69_2 := NB240_241.out
                            have hns69_4 := NB256_241.out
                            have hns69_5 := NB257_241.out
                            have hms69_0 := NB241_224.out
                            have hms69_1 := NB241_239.out
                            have hms69_2 := NB241_240.out
                            have hms69_4 := NB241_256.out
                            have hms69_5 := NB241_257.out
                            refine skip_ (w1 := ?_) (by rfl) rfl ?_ ?_
                            rotate_left
                            · go_simp
                              rfl
                            refine hK.out _ _ ⟨.slice Ao68 t259.length co68, m2_, (by rw [ha.out]; exact putSel_none (v := undef) rfl), fun h0_ => absurd ((hon 2 (by kernel_rfl)).symm.trans h0_) (by decide), fun h0_ => absurd ((hon 2 (by kernel_rfl)).symm.trans h0_) (by decide), fun h0_ => absurd ((hon 2 (by kernel_rfl)).symm.trans h0_) (by decide), (by (with_reducible repeat (first | apply Kd.R_alloc | apply Kd.R_drewN | apply Kd.R_drew)); exact Kd.R_mono (Kd.R_far (p := ⟨gb241, 1, none⟩) (Kd.R_far (p := ⟨gb241, 0, none⟩) (Kd.R_types HO_7.out BK241.out (by decide)) (fun _ hk => hk.2) (.int .i64 t258)) (fun _ hk => hk.2) (.slice Ao68 t259.length co68)) (fun _ hk => trivial)), fun _ => (by (with_reducible repeat (first | refine blk_drewN ?_ _ | refine blk_drew ?_ | refine blk_alloc ?_ _)); refine blk_far ?_ NB224_241.out _; (with_reducible repeat (first | refine blk_drewN ?_ _ | refine blk_drew ?_ | refine blk_alloc ?_ _)); refine blk_far ?_ NB224_241.out _; (with_reducible repeat (first | refine blk_drewN ?_ _ | refine blk_drew ?_ | refine blk_alloc ?_ _)); exact BK224.out), (by (with_reducible repeat (first | refine blk_drewN ?_ _ | refine blk_drew ?_ | refine blk_alloc ?_ _)); refine blk_far ?_ NB239_241.out _; (with_reducible repeat (first | refine blk_drewN ?_ _ | refine blk_drew ?_ | refine blk_alloc ?_ _)); refine blk_far ?_ NB239_241.out _; (with_reducible repeat (first | refine blk_drewN ?_ _ | refine blk_drew ?_ | refine blk_alloc ?_ _)); exact BK239.out), (by (with_reducible repeat (first | refine blk_drewN ?_ _ | refine blk_drew ?_ | refine blk_alloc ?_ _)); refine blk_far ?_ NB240_241.out _; (with_reducible repeat (first | refine blk_drewN ?_ _ | refine blk_drew ?_ | refine blk_alloc ?_ _)); refine blk_far ?_ NB240_241.out _; (with_reducible repeat (first | refine blk_drewN ?_ _ | refine blk_drew ?_ | refine blk_alloc ?_ _)); exact BK240.out), fun h0_ => absurd ((up_self b 5).symm.trans h0_) (by decide), (by (with_reducible repeat (first | refine blk_drewN ?_ _ | refine blk_drew ?_ | refine blk_alloc ?_ _)); refine blk_far ?_ NB256_241.out _; (with_reducible repeat (first | refine blk_drewN ?_ _ | refine blk_drew ?_ | refine blk_alloc ?_ _)); refine blk_far ?_ NB256_241.out _; (with_reducible repeat (first | refine blk_drewN ?_ _ | refine blk_drew ?_ | refine blk_alloc ?_ _)); exact BK256.out), (by (with_reducible repeat (first | refine blk_drewN ?_ _ | refine blk_drew ?_ | refine blk_alloc ?_ _)); refine blk_far ?_ NB257_241.out _; (with_reducible repeat (first | refine blk_drewN ?_ _ | refine blk_drew ?_ | refine blk_alloc ?_ _)); refine blk_far ?_ NB257_241.out _; (with_reducible repeat (first | refine blk_drewN ?_ _ | refine blk_drew ?_ | refine blk_alloc ?_ _)); exact BK257.out), (by first | (have hR_ := (Kd.R_far (p := ⟨gb241, 1, none⟩) (Kd.R_far (p := ⟨gb241, 0, none⟩) (Kd.R_types HO_7.out BK241.out (by decide)) (fun _ hk => hk.2) (.int .i64 t258)) (fun _ hk => hk.2) (.slice Ao68 t259.length co68)); rw [Ny244.out, KA51.out]; exact Kd.C_mid (lo := (x12_1 : Int).toNat) (hi := (x14_39 : Int).toNat) (c := co21) ((Kd.R_reads' (hR_)).2.2) KM51.out KL51.out ((Kd.R_reads' (hR_)).2.1)) | (rw [Ny244.out, KA51.out]; exact Kd.C_mid (lo := (x12_1 : Int).toNat) (hi := (x14_39 : Int).toNat) (c := co21) ((Kd.R_reads' (by (with_reducible repeat (first | apply Kd.R_alloc | apply Kd.R_drewN | apply Kd.R_drew)); exact (Kd.R_mono (Kd.R_far (p := ⟨gb241, 1, none⟩) (Kd.R_far (p := ⟨gb241, 0, none⟩) (Kd.R_types HO_7.out BK241.out (by decide)) (fun _ hk => hk.2) (.int .i64 t258)) (fun _ hk => hk.2) (.slice Ao68 t259.length co68)) (fun _ h_ => h_.1)))).2.2) KM51.out KL51.out ((Kd.R_reads' (by (with_reducible repeat (first | apply Kd.R_alloc | apply Kd.R_drewN | apply Kd.R_drew)); exact (Kd.R_mono (Kd.R_far (p := ⟨gb241, 1, none⟩) (Kd.R_far (p := ⟨gb241, 0, none⟩) (Kd.R_types HO_7.out BK241.out (by decide)) (fun _ hk => hk.2) (.int .i64 t258)) (fun _ hk => hk.2) (.slice Ao68 t259.length co68)) (fun _ h_ => h_.1)))).2.1))), (by repeat (first | (with_reducible first | exact HB.out | apply below_alloc | apply pw_below_drewN | apply below_drew1 | refine below_set ?_ GE224.out | refine below_set ?_ GE239.out | refine below_set ?_ GE240.out | refine below_set ?_ GE241.out | refine below_set ?_ GE256.out | refine below_set ?_ GE257.out) | exact HB.out)), fun _ => (by (with_reducible repeat (first | apply Kd.R_alloc | apply Kd.R_drewN | apply Kd.R_drew)); exact Kd.R_mono (Kd.R_far (p := ⟨gb241, 1, none⟩) (Kd.R_far (p := ⟨gb241, 0, none⟩) (Kd.R_types HO251.out BK241.out (by decide)) (fun _ hk => hk.2) (.int .i64 t258)) (fun _ hk => hk.2) (.slice Ao68 t259.length co68)) (fun _ hk => ⟨hk.1.1, ⟨hk.1.2.1, hk.1.2.2⟩⟩)), fun _ => (by (with_reducible repeat (first | apply Kd.R_alloc | apply Kd.R_drewN | apply Kd.R_drew)); exact Kd.R_mono (Kd.R_far (p := ⟨gb241, 1, none⟩) (Kd.R_far (p := ⟨gb241, 0, none⟩) (Kd.R_types HO261.out BK241.out (by decide)) (fun _ hk => hk.2) (.int .i64 t258)) (fun _ hk => hk.2) (.slice Ao68 t259.length co68)) (fun _ hk => ⟨hk.1.1, ⟨hk.1.2.1, hk.1.2.2⟩⟩)), fun _ => (by (with_reducible repeat (first | apply Kd.R_alloc | apply Kd.R_drewN | apply Kd.R_drew)); exact Kd.R_mono (Kd.R_far (p := ⟨gb241, 1, none⟩) (Kd.R_far (p := ⟨gb241, 0, none⟩) (Kd.R_types HO_240001.out BK241.out (by decide)) (fun _ hk => hk.2) (.int .i64 t258)) (fun _ hk => hk.2) (.slice Ao68 t259.length co68)) (fun _ hk => ⟨hk.1.1, ⟨hk.1.2.1, hk.1.2.2⟩⟩)), fun _ => (by (with_reducible repeat (first | apply Kd.R_alloc | apply Kd.R_drewN | apply Kd.R_drew)); exact Kd.R_mono (Kd.R_far (p := ⟨gb241, 1, none⟩) (Kd.R_far (p := ⟨gb241, 0, none⟩) (Kd.R_types HO_242001.out BK241.out (by decide)) (fun _ hk => hk.2) (.int .i64 t258)) (fun _ hk => hk.2) (.slice Ao68 t259.length co68)) (fun _ hk => ⟨hk.1.1, ⟨hk.1.2.1, hk.1.2.2⟩⟩)), fun _ => (by (with_reducible repeat (first | refine blk_drewN ?_ _ | refine blk_drew ?_ | refine blk_alloc ?_ _)); refine blk_put (cs := #[.int .i64 t258, .slice Ao62 x242001_1.length co62]) ?_ 1 _ rfl; (with_reducible repeat (first | refine blk_drewN ?_ _ | refine blk_drew ?_ | refine blk_alloc ?_ _)); refine blk_put (cs := #[.int .i64 x242000_1, .slice Ao62 x242001_1.length co62]) ?_ 0 _ rfl; (with_reducible repeat (first | refine blk_drewN ?_ _ | refine blk_drew ?_ | refine blk_alloc ?_ _)); exact BK241.out), fun h0_ => absurd ((hoff 6 (by kernel_rfl)).symm.trans h0_) (by decide), Q_X2_⟩
                          refine steps_cons ?_ ?_
                          · rintro b a w' ⟨v260, m2_, ha, Q_HO251, Q_HO_240001, Q_HO_242001, Q_HO_7, Q_BK224, Q_BK239, Q_BK240, Q_BK241, Q_BK256, Q_BK257, Q_HR247, Q_HB, Q_HO251_e2, Q_HO261, Q_HO_240001_e2, Q_HO_242001_e2, Q_BK241_e5, Q_BK224_e6, Q_X2_⟩ hb_ hon hoff
                            refine ⟨_, rfl, fun K hK => ?_⟩
                            have e6 : a.tmps[6]? = some (.pointer (some ⟨gb224, 0, none⟩)) := by rw [ha]; exact (putSel_off rfl).trans rfl
                            have e79 : a.tmps[79]? = some (.agg #[.int .i64 t252, .int .i64 t253, .int .i64 t254]) := by rw [ha]; exact putSel_on (e := (3, 79, .agg #[.int .i64 t252, .int .i64 t253, .int .i64 t254])) 3 rfl rfl (hon 3 (by kernel_rfl)) rfl
                            replace ha := Aside0.mk ha
                            have HO_7 := Aside0.mk Q_HO_7
                            have BK224 := Aside0.mk (Q_BK224 hb_)
                            have BK239 := Aside0.mk Q_BK239
                            have BK240 := Aside0.mk Q_BK240
                            have BK256 := Aside0.mk Q_BK256
                            have BK257 := Aside0.mk Q_BK257
                            have HR247 := Aside0.mk Q_HR247
                            have HB := Aside0.mk Q_HB
                            have HO251 := Aside0.mk (Q_HO251_e2 (hon 2 (by kernel_rfl)))
                            have HO261 := Aside0.mk (Q_HO261 (hon 2 (by kernel_rfl)))
                            have HO_240001 := Aside0.mk (Q_HO_240001_e2 (hon 2 (by kernel_rfl)))
                            have HO_242001 := Aside0.mk (Q_HO_242001_e2 (hon 2 (by kernel_rfl)))
                            have BK241 := Aside0.mk (Q_BK241_e5 (hon 5 (by kernel_rfl)))
                            have hs70 : w'.cell? ⟨gb224, 0, none⟩ = some (.int .i64 x225000_1) := (blk_cell BK224.out 0).trans rfl
                            have hfs70 := blk_frozen BK224.out 0
                            have hns70_1 := NB239_224.out
                            have hns70_2 := NB240_224.out
                            have hns70_3 := NB241_224.out
                            have hns70_4 := NB256_224.out
                            have hns70_5 := NB257_224.out
                            have hms70_1 := NB224_239.out
                            have hms70_2 := NB224_240.out
                            have hms70_3 := NB224_241.out
                            have hms70_4 := NB224_256.out
                            have hms70_5 := NB224_257.out
                            have hs71 : w'.cell? ⟨gb224, 1, none⟩ = some (.int .i64 x225001_1) := (blk_cell BK224.out 1).trans rfl
                            have hfs71 := blk_frozen BK224.out 1
                            have hns71_1 := NB239_224.out
                            have hns71_2 := NB240_224.out
                            have hns71_3 := NB241_224.out
                            have hns71_4 := NB256_224.out
                            have hns71_5 := NB257_224.out
                            have hms71_1 := NB224_239.out
                            have hms71_2 := NB224_240.out
                            have hms71_3 := NB224_241.out
                            have hms71_4 := NB224_256.out
                            have hms71_5 := NB224_257.out
                            have hs72 : w'.cell? ⟨gb224, 2, none⟩ = some (.int .i64 x225002_1) := (blk_cell BK224.out 2).trans rfl
                            have hfs72 := blk_frozen BK224.out 2
                            have hns72_1 := NB239_224.out
                            have hns72_2 := NB240_224.out
                            have hns72_3 := NB241_224.out
                            have hns72_4 := NB256_224.out
                            have hns72_5 := NB257_224.out
                            have hms72_1 := NB224_239.out
                            have hms72_2 := NB224_240.out
                            have hms72_3 := NB224_241.out
                            have hms72_4 := NB224_256.out
                            have hms72_5 := NB224_257.out
                            refine skip_ (w1 := ?_) (by rfl) rfl ?_ ?_
                            rotate_left
                            · go_simp
                              rfl
                            refine hK.out _ _ ⟨v260, m2_, (by rw [ha.out]; exact putSel_none (v := undef) rfl), fun h0_ => absurd ((hon 2 (by kernel_rfl)).symm.trans h0_) (by decide), fun h0_ => absurd ((hon 2 (by kernel_rfl)).symm.trans h0_) (by decide), fun h0_ => absurd ((hon 2 (by kernel_rfl)).symm.trans h0_) (by decide), (by (with_reducible repeat (first | apply Kd.R_alloc | apply Kd.R_drewN | apply Kd.R_drew)); exact Kd.R_mono (Kd.R_far (p := ⟨gb224, 2, none⟩) (Kd.R_far (p := ⟨gb224, 1, none⟩) (Kd.R_far (p := ⟨gb224, 0, none⟩) (Kd.R_types HO_7.out BK224.out (by decide)) (fun _ hk => hk.2) (.int .i64 t252)) (fun _ hk => hk.2) (.int .i64 t253)) (fun _ hk => hk.2) (.int .i64 t254)) (fun _ hk => trivial)), fun h0_ => absurd ((up_self b 6).symm.trans h0_) (by decide), (by (with_reducible repeat (first | refine blk_drewN ?_ _ | refine blk_drew ?_ | refine blk_alloc ?_ _)); refine blk_far ?_ NB239_224.out _; (with_reducible repeat (first | refine blk_drewN ?_ _ | refine blk_drew ?_ | refine blk_alloc ?_ _)); refine blk_far ?_ NB239_224.out _; (with_reducible repeat (first | refine blk_drewN ?_ _ | refine blk_drew ?_ | refine blk_alloc ?_ _)); refine blk_far ?_ NB239_224.out _; (with_reducible repeat (first | refine blk_drewN ?_ _ | refine blk_drew ?_ | refine blk_alloc ?_ _)); exact BK239.out), (by (with_reducible repeat (first | refine blk_drewN ?_ _ | refine blk_drew ?_ | refine blk_alloc ?_ _)); refine blk_far ?_ NB240_224.out _; (with_reducible repeat (first | refine blk_drewN ?_ _ | refine blk_drew ?_ | refine blk_alloc ?_ _)); refine blk_far ?_ NB240_224.out _; (with_reducible repeat (first | refine blk_drewN ?_ _ | refine blk_drew ?_ | refine blk_alloc ?_ _)); refine blk_far ?_ NB240_224.out _; (with_reducible repeat (first | refine blk_drewN ?_ _ | refine blk_drew ?_ | refine blk_alloc ?_ _)); exact BK240.out), fun h0_ => absurd ((hon 5 (by kernel_rfl)).symm.trans h0_) (by decide), (by (with_reducible repeat (first | refine blk_drewN ?_ _ | refine blk_drew ?_ | refine blk_alloc ?_ _)); refine blk_far ?_ NB256_224.out _; (with_reducible repeat (first | refine blk_drewN ?_ _ | refine blk_drew ?_ | refine blk_alloc ?_ _)); refine blk_far ?_ NB256_224.out _; (with_reducible repeat (first | refine blk_drewN ?_ _ | refine blk_drew ?_ | refine blk_alloc ?_ _)); refine blk_far ?_ NB256_224.out _; (with_reducible repeat (first | refine blk_drewN ?_ _ | refine blk_drew ?_ | refine blk_alloc ?_ _)); exact BK256.out), (by (with_reducible repeat (first | refine blk_drewN ?_ _ | refine blk_drew ?_ | refine blk_alloc ?_ _)); refine blk_far ?_ NB257_224.out _; (with_reducible repeat (first | refine blk_drewN ?_ _ | refine blk_drew ?_ | refine blk_alloc ?_ _)); refine blk_far ?_ NB257_224.out _; (with_reducible repeat (first | refine blk_drewN ?_ _ | refine blk_drew ?_ | refine blk_alloc ?_ _)); refine blk_far ?_ NB257_224.out _; (with_reducible repeat (first | refine blk_drewN ?_ _ | refine blk_drew ?_ | refine blk_alloc ?_ _)); exact BK257.out), (by first | (have hR_ := (Kd.R_far (p := ⟨gb224, 2, none⟩) (Kd.R_far (p := ⟨gb224, 1, none⟩) (Kd.R_far (p := ⟨gb224, 0, none⟩) (Kd.R_types HO_7.out BK224.out (by decide)) (fun _ hk => hk.2) (.int .i64 t252)) (fun _ hk => hk.2) (.int .i64 t253)) (fun _ hk => hk.2) (.int .i64 t254)); rw [Ny244.out, KA51.out]; exact Kd.C_mid (lo := (x12_1 : Int).toNat) (hi := (x14_39 : Int).toNat) (c := co21) ((Kd.R_reads' (hR_)).2.2) KM51.out KL51.out ((Kd.R_reads' (hR_)).2.1)) | (rw [Ny244.out, KA51.out]; exact Kd.C_mid (lo := (x12_1 : Int).toNat) (hi := (x14_39 : Int).toNat) (c := co21) ((Kd.R_reads' (by (with_reducible repeat (first | apply Kd.R_alloc | apply Kd.R_drewN | apply Kd.R_drew)); exact (Kd.R_mono (Kd.R_far (p := ⟨gb224, 2, none⟩) (Kd.R_far (p := ⟨gb224, 1, none⟩) (Kd.R_far (p := ⟨gb224, 0, none⟩) (Kd.R_types HO_7.out BK224.out (by decide)) (fun _ hk => hk.2) (.int .i64 t252)) (fun _ hk => hk.2) (.int .i64 t253)) (fun _ hk => hk.2) (.int .i64 t254)) (fun _ h_ => h_.1)))).2.2) KM51.out KL51.out ((Kd.R_reads' (by (with_reducible repeat (first | apply Kd.R_alloc | apply Kd.R_drewN | apply Kd.R_drew)); exact (Kd.R_mono (Kd.R_far (p := ⟨gb224, 2, none⟩) (Kd.R_far (p := ⟨gb224, 1, none⟩) (Kd.R_far (p := ⟨gb224, 0, none⟩) (Kd.R_types HO_7.out BK224.out (by decide)) (fun _ hk => hk.2) (.int .i64 t252)) (fun _ hk => hk.2) (.int .i64 t253)) (fun _ hk => hk.2) (.int .i64 t254)) (fun _ h_ => h_.1)))).2.1))), (by repeat (first | (with_reducible first | exact HB.out | apply below_alloc | apply pw_below_drewN | apply below_drew1 | refine below_set ?_ GE224.out | refine below_set ?_ GE239.out | refine below_set ?_ GE240.out | refine below_set ?_ GE241.out | refine below_set ?_ GE256.out | refine below_set ?_ GE257.out) | exact HB.out)), fun _ => (by (with_reducible repeat (first | apply Kd.R_alloc | apply Kd.R_drewN | apply Kd.R_drew)); exact Kd.R_mono (Kd.R_far (p := ⟨gb224, 2, none⟩) (Kd.R_far (p := ⟨gb224, 1, none⟩) (Kd.R_far (p := ⟨gb224, 0, none⟩) (Kd.R_types HO251.out BK224.out (by decide)) (fun _ hk => hk.2) (.int .i64 t252)) (fun _ hk => hk.2) (.int .i64 t253)) (fun _ hk => hk.2) (.int .i64 t254)) (fun _ hk => ⟨hk.1.1, ⟨hk.1.2.1, hk.1.2.2⟩⟩)), fun _ => (by (with_reducible repeat (first | apply Kd.R_alloc | apply Kd.R_drewN | apply Kd.R_drew)); exact Kd.R_mono (Kd.R_far (p := ⟨gb224, 2, none⟩) (Kd.R_far (p := ⟨gb224, 1, none⟩) (Kd.R_far (p := ⟨gb224, 0, none⟩) (Kd.R_types HO261.out BK224.out (by decide)) (fun _ hk => hk.2) (.int .i64 t252)) (fun _ hk => hk.2) (.int .i64 t253)) (fun _ hk => hk.2) (.int .i64 t254)) (fun _ hk => ⟨hk.1.1, ⟨hk.1.2.1, hk.1.2.2⟩⟩)), fun _ => (by (with_reducible repeat (first | apply Kd.R_alloc | apply Kd.R_drewN | apply Kd.R_drew)); exact Kd.R_mono (Kd.R_far (p := ⟨gb224, 2, none⟩) (Kd.R_far (p := ⟨gb224, 1, none⟩) (Kd.R_far (p := ⟨gb224, 0, none⟩) (Kd.R_types HO_240001.out BK224.out (by decide)) (fun _ hk => hk.2) (.int .i64 t252)) (fun _ hk => hk.2) (.int .i64 t253)) (fun _ hk => hk.2) (.int .i64 t254)) (fun _ hk => ⟨hk.1.1, ⟨hk.1.2.1, hk.1.2.2⟩⟩)), fun _ => (by (with_reducible repeat (first | apply Kd.R_alloc | apply Kd.R_drewN | apply Kd.R_drew)); exact Kd.R_mono (Kd.R_far (p := ⟨gb224, 2, none⟩) (Kd.R_far (p := ⟨gb224, 1, none⟩) (Kd.R_far (p := ⟨gb224, 0, none⟩) (Kd.R_types HO_242001.out BK224.out (by decide)) (fun _ hk => hk.2) (.int .i64 t252)) (fun _ hk => hk.2) (.int .i64 t253)) (fun _ hk => hk.2) (.int .i64 t254)) (fun _ hk => ⟨hk.1.1, ⟨hk.1.2.1, hk.1.2.2⟩⟩)), fun _ => (by (with_reducible repeat (first | refine blk_drewN ?_ _ | refine blk_drew ?_ | refine blk_alloc ?_ _)); refine blk_far ?_ NB241_224.out _; (with_reducible repeat (first | refine blk_drewN ?_ _ | refine blk_drew ?_ | refine blk_alloc ?_ _)); refine blk_far ?_ NB241_224.out _; (with_reducible repeat (first | refine blk_drewN ?_ _ | refine blk_drew ?_ | refine blk_alloc ?_ _)); refine blk_far ?_ NB241_224.out _; (with_reducible repeat (first | refine blk_drewN ?_ _ | refine blk_drew ?_ | refine blk_alloc ?_ _)); exact BK241.out), fun _ => (by (with_reducible repeat (first | refine blk_drewN ?_ _ | refine blk_drew ?_ | refine blk_alloc ?_ _)); refine blk_put (cs := #[.int .i64 t252, .int .i64 t253, .int .i64 x225002_1]) ?_ 2 _ rfl; (with_reducible repeat (first | refine blk_drewN ?_ _ | refine blk_drew ?_ | refine blk_alloc ?_ _)); refine blk_put (cs := #[.int .i64 t252, .int .i64 x225001_1, .int .i64 x225002_1]) ?_ 1 _ rfl; (with_reducible repeat (first | refine blk_drewN ?_ _ | refine blk_drew ?_ | refine blk_alloc ?_ _)); refine blk_put (cs := #[.int .i64 x225000_1, .int .i64 x225001_1, .int .i64 x225002_1]) ?_ 0 _ rfl; (with_reducible repeat (first | refine blk_drewN ?_ _ | refine blk_drew ?_ | refine blk_alloc ?_ _)); exact BK224.out), Q_X2_⟩
                          refine steps_cons ?_ ?_
                          · rintro b a w' ⟨v260, m2_, ha, Q_HO251, Q_HO_240001, Q_HO_242001, Q_HO_7, Q_BK224, Q_BK239, Q_BK240, Q_BK241, Q_BK256, Q_BK257, Q_HR247, Q_HB, Q_HO251_e2, Q_HO261, Q_HO_240001_e2, Q_HO_242001_e2, Q_BK241_e5, Q_BK224_e6, Q_X2_⟩ hb_ hon hoff
                            refine ⟨_, rfl, fun K hK => ?_⟩
                            have e80 : a.tmps[80]? = some (.int .i64 x14_39) := by rw [ha]; exact (putSel_off rfl).trans rfl
                            replace ha := Aside0.mk ha
                            have HO_7 := Aside0.mk Q_HO_7
                            have BK239 := Aside0.mk Q_BK239
                            have BK240 := Aside0.mk Q_BK240
                            have BK256 := Aside0.mk Q_BK256
                            have BK257 := Aside0.mk Q_BK257
                            have HR247 := Aside0.mk Q_HR247
                            have HB := Aside0.mk Q_HB
                            have HO251 := Aside0.mk (Q_HO251_e2 (hon 2 (by kernel_rfl)))
                            have HO261 := Aside0.mk (Q_HO261 (hon 2 (by kernel_rfl)))
                            have HO_240001 := Aside0.mk (Q_HO_240001_e2 (hon 2 (by kernel_rfl)))
                            have HO_242001 := Aside0.mk (Q_HO_242001_e2 (hon 2 (by kernel_rfl)))
                            have BK241 := Aside0.mk (Q_BK241_e5 (hon 5 (by kernel_rfl)))
                            have BK224 := Aside0.mk (Q_BK224_e6 (hon 6 (by kernel_rfl)))
                            refine value_ (w1 := w') (v := .int .i64 x14_39) (by rfl) rfl ?_ ?_
                            · go_simp
                              (try simp only [i64_w])
                              try rfl
                            refine hK.out _ _ ⟨v260, m2_, (by rw [ha.out]; exact putSel_upk 4 hb_ rfl rfl rfl), fun h0_ => absurd ((hon 2 (by kernel_rfl)).symm.trans h0_) (by decide), fun h0_ => absurd ((hon 2 (by kernel_rfl)).symm.trans h0_) (by decide), fun h0_ => absurd ((hon 2 (by kernel_rfl)).symm.trans h0_) (by decide), Q_HO_7, fun h0_ => absurd ((hon 6 (by kernel_rfl)).symm.trans h0_) (by decide), Q_BK239, Q_BK240, fun h0_ => absurd ((hon 5 (by kernel_rfl)).symm.trans h0_) (by decide), Q_BK256, Q_BK257, Q_HR247, Q_HB, Q_HO251_e2, Q_HO261, Q_HO_240001_e2, Q_HO_242001_e2, Q_BK241_e5, Q_BK224_e6, Q_X2_⟩
                          exact steps_nil
                        rintro b a w72 hall ⟨v260, m2_, ha, Q_HO251, Q_HO_240001, Q_HO_242001, Q_HO_7, Q_BK224, Q_BK239, Q_BK240, Q_BK241, Q_BK256, Q_BK257, Q_HR247, Q_HB, Q_HO251_e2, Q_HO261, Q_HO_240001_e2, Q_HO_242001_e2, Q_BK241_e5, Q_BK224_e6, Q_X2_⟩
                        clear BK224 BK239 BK240 BK241 BK256 BK257 HB HO251 HO_240001 HO_242001 HO_7 HR247
                        have hb0_ := hall 0 (by kernel_rfl)
                        have hb1_ := hall 1 (by kernel_rfl)
                        have hb2_ := hall 2 (by kernel_rfl)
                        have hb3_ := hall 3 (by kernel_rfl)
                        have hb5_ := hall 5 (by kernel_rfl)
                        have hb6_ := hall 6 (by kernel_rfl)
                        have hb7_ := hall 7 (by kernel_rfl)
                        subst ha
                        obtain rfl := Q_X2_ hb2_
                        simp only [putSel, hb0_, hb1_, hb2_, hb3_, hb5_, hb6_, hb7_, if_true, Act.put, List.setIfInBounds_toArray, List.set_cons_zero, List.set_cons_succ]
                        clear Q_HO251
                        clear Q_HO_240001
                        clear Q_HO_242001
                        have HO_7 := Aside0.mk Q_HO_7
                        clear Q_HO_7
                        clear Q_BK224
                        have BK239 := Aside0.mk Q_BK239
                        clear Q_BK239
                        have BK240 := Aside0.mk Q_BK240
                        clear Q_BK240
                        clear Q_BK241
                        have BK256 := Aside0.mk Q_BK256
                        clear Q_BK256
                        have BK257 := Aside0.mk Q_BK257
                        clear Q_BK257
                        have HR247 := Aside0.mk Q_HR247
                        clear Q_HR247
                        have HB := Aside0.mk Q_HB
                        clear Q_HB
                        have HO251 := Aside0.mk (Q_HO251_e2 hb2_)
                        clear Q_HO251_e2
                        have HO261 := Aside0.mk (Q_HO261 hb2_)
                        clear Q_HO261
                        have HO_240001 := Aside0.mk (Q_HO_240001_e2 hb2_)
                        clear Q_HO_240001_e2
                        have HO_242001 := Aside0.mk (Q_HO_242001_e2 hb2_)
                        clear Q_HO_242001_e2
                        have BK241 := Aside0.mk (Q_BK241_e5 hb5_)
                        clear Q_BK241_e5
                        have BK224 := Aside0.mk (Q_BK224_e6 hb6_)
                        clear Q_BK224_e6
                        clear hall hb0_ hb1_ hb2_ hb3_ hb5_ hb6_ hb7_
                        try go_wp2
                        go_roundg kj39
                        case measure => have := HK1.out; have := HJ39.out; omega
                        case rel => exact ⟨(x14_39), (wrap64 (x13_1 + 1)), (t252), (t253), (t254), (t258), (t259), (v260), (by first | rfl | (simp; done) | (simp [*]; done)), (by first | rfl | (simp; done) | (simp [*]; done)), H', ⟨by have := HK1.out; have := HJ39.out; omega⟩, ⟨by (with_reducible repeat (first | apply Kd.R_alloc | apply Kd.R_drewN | apply Kd.R_drew)); exact HO_7.out⟩, ⟨by (with_reducible repeat (first | apply Kd.R_alloc | apply Kd.R_drewN | apply Kd.R_drew)); exact Kd.R_mono HO_240001.out (fun _ hk => hk.2.1)⟩, ⟨by (with_reducible repeat (first | apply Kd.R_alloc | apply Kd.R_drewN | apply Kd.R_drew)); exact Kd.R_mono HO261.out (fun _ hk => hk.2.1)⟩, ⟨by (with_reducible repeat (first | refine blk_drewN ?_ _ | refine blk_drew ?_ | refine blk_alloc ?_ _)); exact BK224.out⟩, ⟨by (with_reducible repeat (first | refine blk_drewN ?_ _ | refine blk_drew ?_ | refine blk_alloc ?_ _)); exact BK239.out⟩, ⟨by (with_reducible repeat (first | refine blk_drewN ?_ _ | refine blk_drew ?_ | refine blk_alloc ?_ _)); exact BK240.out⟩, ⟨by (with_reducible repeat (first | refine blk_drewN ?_ _ | refine blk_drew ?_ | refine blk_alloc ?_ _)); exact BK241.out⟩, ⟨by repeat (first | (with_reducible first | exact HB.out | apply below_alloc | apply pw_below_drewN | apply below_drew1 | refine below_set ?_ GE224.out | refine below_set ?_ GE239.out | refine below_set ?_ GE240.out | refine below_set ?_ GE241.out | refine below_set ?_ GE256.out | refine below_set ?_ GE257.out) | exact HB.out)⟩⟩
                      · rw [if_neg c48] at H
                        have c48b0 : (t255 == 0) = false := beq_eq_false_iff_ne.mpr c48
                        have c48b1 : (t255 != 0) = true := bne_iff_ne.mpr c48
                        exact absurd (H.trans (congrArg some HR_.out)) (by simp)
                    · rw [if_neg c46] at H
                      exact absurd H (by simp)
                  · rw [if_neg c45] at H
                    exact absurd H (by simp)
                · rw [if_neg c44] at H
                  exact absurd H (by simp)
          · rw [if_neg c39] at H
            have c39b0 : decide (x13_1 ≤ (l1.length : Int)) = false := decide_eq_false c39
            clear c39
            by_cases c73 : t238 = 0
            · rw [if_pos c73] at H
              have c73b0 : (t238 == 0) = true := beq_iff_eq.mpr c73
              have c73b1 : (t238 != 0) = false := bne_eq_false_iff_eq.mpr c73
              clear c73
              by_cases c74 : (x225000_1 == t235 && (x225001_1 == t236 && (x225002_1 == t237))) = true
              · rw [if_pos c74] at H
                have c74b0 : (x225000_1 == t235 && (x225001_1 == t236 && (x225002_1 == t237))) = true := c74
                (try (have c74b1 : decide (x225000_1 = t235 && (x225001_1 == t236 && (x225002_1 == t237))) = true := by simpa using c74))
                (try (have c74b2 : (x225000_1 == t235 && (x225001_1 == t236 && (x225002_1 == t237))) = true := by simpa using c74))
                clear c74
                replace H := Option.bind_eq_some_iff.mp H
                obtain ⟨t242, A750, H⟩ := H
                replace H : (some t242) = some r := H
                have A75 := Aside0.mk A750
                clear A750
                obtain rfl := Option.some.inj H
                have hnb76 := NB224_239.out
                have hnc76 := NB239_224.out
                have hnb77 := NB224_240.out
                have hnc77 := NB240_224.out
                have hnb78 := NB224_241.out
                have hnc78 := NB241_224.out
                have hcz79_0 : wr.cell? ⟨gb224, 0, none⟩ = some (.int .i64 x225000_1) := (blk_cell BK224.out 0).trans rfl
                have hcz79_1 : wr.cell? ⟨gb224, 1, none⟩ = some (.int .i64 x225001_1) := (blk_cell BK224.out 1).trans rfl
                have hcz79_2 : wr.cell? ⟨gb224, 2, none⟩ = some (.int .i64 x225002_1) := (blk_cell BK224.out 2).trans rfl
                have hfz79_0 := blk_frozen BK224.out 0
                have hfz79_1 := blk_frozen BK224.out 1
                have hfz79_2 := blk_frozen BK224.out 2
                have hnb80 := NB240_239.out
                have hnc80 := NB239_240.out
                have hnb81 := NB240_241.out
                have hnc81 := NB241_240.out
                have hcz82_0 : wr.cell? ⟨gb240, 0, none⟩ = some (.int .i64 t235) := (blk_cell BK240.out 0).trans rfl
                have hcz82_1 : wr.cell? ⟨gb240, 1, none⟩ = some (.int .i64 t236) := (blk_cell BK240.out 1).trans rfl
                have hcz82_2 : wr.cell? ⟨gb240, 2, none⟩ = some (.int .i64 t237) := (blk_cell BK240.out 2).trans rfl
                have hfz82_0 := blk_frozen BK240.out 0
                have hfz82_1 := blk_frozen BK240.out 1
                have hfz82_2 := blk_frozen BK240.out 2
                have hnb83 := NB241_239.out
                have hnc83 := NB239_241.out
                have hcz84_0 : wr.cell? ⟨gb241, 0, none⟩ = some (.int .i64 x242000_1) := (blk_cell BK241.out 0).trans rfl
                have hcz84_1 : wr.cell? ⟨gb241, 1, none⟩ = some (u242001) := (blk_cell BK241.out 1).trans rfl
                have hfz84_0 := blk_frozen BK241.out 0
                have hfz84_1 := blk_frozen BK241.out 1
                have hcz85_0 : wr.cell? ⟨gb239, 0, none⟩ = some (.int .i64 t231) := (blk_cell BK239.out 0).trans rfl
                have hcz85_1 : wr.cell? ⟨gb239, 1, none⟩ = some (.slice Ao29 t232.length co29) := (blk_cell BK239.out 1).trans rfl
                have hfz85_0 := blk_frozen BK239.out 0
                have hfz85_1 := blk_frozen BK239.out 1
                obtain ⟨Ao86, co86, eo86⟩ := Kd.R_slice HO_242001.out
                subst eo86
                go_wp2_with (first | (go_at_call 14; (with_reducible refine (soundserviceref04_Same.calls k1 x242000_1 _ _ x242001_1 t231 _ _ t232 t242 _ ?side1 ?side2 ?side3 ?side4 A75.out).mono ?_); (case side1 => repeat (first | exact (Kd.R_reads' HO_242001.out).2.2 | (with_reducible refine Kd.C_alloc ?_ _) | (with_reducible refine Kd.C_drewN ?_ _) | (with_reducible refine Kd.C_drew ?_))); (case side2 => exact (Kd.R_reads' HO_242001.out).2.1); (case side3 => repeat (first | exact (Kd.R_reads' HO_240001.out).2.2 | (with_reducible refine Kd.C_alloc ?_ _) | (with_reducible refine Kd.C_drewN ?_ _) | (with_reducible refine Kd.C_drew ?_))); (case side4 => exact (Kd.R_reads' HO_240001.out).2.1); rintro e w87 ⟨rfl, hb⟩; have n0_ := Aside0.mk (Kd.R_below (by (with_reducible repeat (first | apply Kd.R_alloc | apply Kd.R_drewN | apply Kd.R_drew)); exact HO_7.out) hb); have n1_ := Aside0.mk (Kd.R_below (by (with_reducible repeat (first | apply Kd.R_alloc | apply Kd.R_drewN | apply Kd.R_drew)); exact HO_240001.out) hb); have n2_ := Aside0.mk (Kd.R_below (by (with_reducible repeat (first | apply Kd.R_alloc | apply Kd.R_drewN | apply Kd.R_drew)); exact HO_242001.out) hb); have n3_ := Aside0.mk (blk_below (g := gb224) (o := .cells #[.int .i64 x225000_1, .int .i64 x225001_1, .int .i64 x225002_1] 23 (0, 0)) (by (with_reducible repeat (first | refine blk_drewN ?_ _ | refine blk_drew ?_ | refine blk_alloc ?_ _)); exact BK224.out) hb); have n4_ := Aside0.mk (blk_below (g := gb239) (o := .cells #[.int .i64 t231, .slice Ao29 t232.length co29] 36 (0, 0)) (by (with_reducible repeat (first | refine blk_drewN ?_ _ | refine blk_drew ?_ | refine blk_alloc ?_ _)); exact BK239.out) hb); have n5_ := Aside0.mk (blk_below (g := gb240) (o := .cells #[.int .i64 t235, .int .i64 t236, .int .i64 t237] 23 (0, 0)) (by (with_reducible repeat (first | refine blk_drewN ?_ _ | refine blk_drew ?_ | refine blk_alloc ?_ _)); exact BK240.out) hb); have n6_ := Aside0.mk (blk_below (g := gb241) (o := .cells #[.int .i64 x242000_1, .slice Ao86 x242001_1.length co86] 36 (0, 0)) (by (with_reducible repeat (first | refine blk_drewN ?_ _ | refine blk_drew ?_ | refine blk_alloc ?_ _)); exact BK241.out) hb); have n7_ := Aside0.mk (below_step (by repeat (first | (with_reducible first | exact HB.out | apply below_alloc | apply pw_below_drewN | apply below_drew1 | refine below_set ?_ GE224.out | refine below_set ?_ GE239.out | refine below_set ?_ GE240.out | refine below_set ?_ GE241.out) | exact HB.out)) hb); clear HO_7; clear HO_240001; clear HO_242001; clear BK224; clear BK239; clear BK240; clear BK241; clear HB; have HO_7 := n0_; have HO_240001 := n1_; have HO_242001 := n2_; have BK224 := n3_; have BK239 := n4_; have BK240 := n5_; have BK241 := n6_; have HB := n7_; clear n0_ n1_ n2_ n3_ n4_ n5_ n6_ n7_; (try clear hb); (try clear hb2); (try clear hk); (try clear hi)))
                go_ret
                exact ⟨by first | rfl | (simp [errW_none, errW_some] <;> rfl) | (simp [*, errW_none, errW_some] <;> rfl), by repeat (first | (with_reducible first | exact HB.out | apply below_alloc | apply pw_below_drewN | apply below_drew1 | refine below_set ?_ GE224.out | refine below_set ?_ GE239.out | refine below_set ?_ GE240.out | refine below_set ?_ GE241.out) | exact HB.out)⟩
              · rw [if_neg c74] at H
                have c74b0 : (x225000_1 == t235 && (x225001_1 == t236 && (x225002_1 == t237))) = false := by simpa using c74
                (try (have c74b1 : decide (x225000_1 = t235 && (x225001_1 == t236 && (x225002_1 == t237))) = false := by simpa using c74))
                (try (have c74b2 : (x225000_1 == t235 && (x225001_1 == t236 && (x225002_1 == t237))) = false := by simpa using c74))
                (try (have c74b3 : ¬ (x225000_1 = t235 && (x225001_1 == t236 && (x225002_1 == t237))) := by simpa using c74))
                clear c74
                exact absurd (H.trans (congrArg some HR_.out)) (by simp)
            · rw [if_neg c73] at H
              have c73b0 : (t238 == 0) = false := beq_eq_false_iff_ne.mpr c73
              have c73b1 : (t238 != 0) = true := bne_iff_ne.mpr c73
              exact absurd (H.trans (congrArg some HR_.out)) (by simp)
  · replace c4 := Bool.eq_false_iff.mpr c4
    subst c4
    have H1 : (some false) = some r := by rw [if_neg (show ¬ (false = true) by decide)] at H; exact H
    clear H
    have H := H1
    clear H1
    exact absurd (H.trans (congrArg some HR_.out)) (by simp)

/-- THE ONE PURE STATEMENT of soundservicelaw08_LimiterPieces. -/
def soundservicelaw08_LimiterPieces.Pure : Prop := ∀ (l0 : List Int) (l1 : List Int), l0.length ≤ maxLen → l0.length * 1 ≤ 140737488351232 → (∀ x ∈ l0, (Lit.int .u8 x).wf = true) → l1.length ≤ maxLen → l1.length * 1 ≤ 140737488351232 → (∀ x ∈ l1, (Lit.int .u8 x).wf = true) → ∃ k, soundservicelaw08_LimiterPieces.f k l0 l1 = some true
theorem soundservicelaw08_LimiterPieces.walk (P : soundservicelaw08_LimiterPieces.Pure) (a0 : Option Addr) (len0 cap0 : Nat) (z0 : List Int) (a1 : Option Addr) (len1 cap1 : Nat) (z1 : List Int) (w : World) (w0 : (a0 = none ∧ len0 = 0 ∧ cap0 = 0 ∧ z0 = []) ∨ ∃ x, a0 = some x ∧ len0 ≤ cap0 ∧ cap0 ≤ maxLen ∧ z0.length = cap0 ∧ (∀ i, i < z0.length → w.cell? (x.add i) = some (.int .u8 (z0.getD i 0))) ∧ ∀ n ∈ z0, (Lit.int .u8 n).wf = true) (y0 : len0 * 1 ≤ 140737488351232) (w1 : (a1 = none ∧ len1 = 0 ∧ cap1 = 0 ∧ z1 = []) ∨ ∃ x, a1 = some x ∧ len1 ≤ cap1 ∧ cap1 ≤ maxLen ∧ z1.length = cap1 ∧ (∀ i, i < z1.length → w.cell? (x.add i) = some (.int .u8 (z1.getD i 0))) ∧ ∀ n ∈ z1, (Lit.int .u8 n).wf = true) (y1 : len1 * 1 ≤ 140737488351232) :
    Calls Try.prog 5 #[.slice a0 len0 cap0, .slice a1 len1 cap1] w fun e w' => e = .returned (.bool true) ∧ Below w.heap.size w w' := by
  obtain ⟨l0, rfl, hr0, hm0, hw0, hc0⟩ := ReadsInt.ofRowC w0
  obtain ⟨l1, rfl, hr1, hm1, hw1, hc1⟩ := ReadsInt.ofRowC w1
  obtain ⟨k, h⟩ := P l0 l1 hm0 y0 hw0 hm1 y1 hw1
  refine (soundservicelaw08_LimiterPieces.calls k _ _ l0 _ _ l1 true w (Kd.C_of_reads (d := (0 : Int)) (h1 := fun _ => rfl) hr0) hc0 (Kd.C_of_reads (d := (0 : Int)) (h1 := fun _ => rfl) hr1) hc1 rfl h).mono ?_
  rintro e w' ⟨rfl, hd⟩
  exact ⟨rfl, hd⟩

end Go.Proofs.Ytempbcblakkjmaa.QP
