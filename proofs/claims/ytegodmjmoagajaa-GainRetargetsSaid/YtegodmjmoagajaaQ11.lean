-- Written by a program of this session, out of the seat's translation; checked by the kernel alone.
import Derived.Test.YtegodmjmoagajaaQ0
import Derived.Test.YtegodmjmoagajaaQ2
import Derived.Test.YtegodmjmoagajaaQ4
import Derived.Test.YtegodmjmoagajaaQ7
namespace Go.Proofs.Ytegodmjmoagajaa.Q
open Go.RowKit Go.Proofs.YtegodmjmoagajaaW.PrintWords Go.Proofs.YtegodmjmoagajaaW.PrintLast Go.Proofs.YtegodmjmoagajaaW.PrintMore
attribute [local go_sem] max2_int min2_int max_two min_two max_three min_three max_four min_four   -- for this text's walks alone
set_option linter.unusedVariables false
set_option linter.unusedSimpArgs false

/-! ### soundservicelaw05_GainRetargets: function 11 -/
def soundservicelaw05_GainRetargets.l0 : Nat → Int → Int → Int → List Int → Int → Int → Int → Int → Int → Int → Option (Bool)
  | 0, _, _, _, _, _, _, _, _, _, _ => none
  | k + 1, x1, x6, x7, x19, x20, x21, x416000, x416001, x416002, x416003 => if x21 < x20 then (if 0 ≤ x21 then (if x21 < (x19.length : Int) then ((gain_Retarget.f x416000 x416001 x416002 x416003 (wrap64 (rd x19 x21)) 5).bind fun bt417 => (if bt417.2.2.2.2 = 0 then (if 0 ≤ (Int.tmod x1 8) then (if (Int.tmod x1 8 : Int).toNat ≤ 70368744177664 then ((gain_Run.f k bt417.1 bt417.2.1 bt417.2.2.1 bt417.2.2.2.1 1 (List.replicate (Int.tmod x1 8 : Int).toNat 0)).bind fun bt426 => ((gain_At.f bt426.2.2.1 bt426.2.2.2.1 bt426.2.2.2.2.1 bt426.2.2.2.2.2.1 0).bind fun t435 => (if bt426.2.2.2.2.2.2 = 0 then (if t435 < (mn x6 (wrap64 (rd x19 x21))) then (some false) else (if t435 > (mx x7 (wrap64 (rd x19 x21))) then (some false) else (if (Int.tmod x1 8) ≥ 5 then (if t435 = (wrap64 (rd x19 x21)) then (soundservicelaw05_GainRetargets.l0 k x1 (mn x6 (wrap64 (rd x19 x21))) (mx x7 (wrap64 (rd x19 x21))) x19 x20 (wrap64 (x21 + 1)) bt426.2.2.1 bt426.2.2.2.1 bt426.2.2.2.2.1 bt426.2.2.2.2.2.1) else (some false)) else (soundservicelaw05_GainRetargets.l0 k x1 (mn x6 (wrap64 (rd x19 x21))) (mx x7 (wrap64 (rd x19 x21))) x19 x20 (wrap64 (x21 + 1)) bt426.2.2.1 bt426.2.2.2.1 bt426.2.2.2.2.1 bt426.2.2.2.2.2.1)))) else (some false)))) else (none)) else (none)) else (some false))) else (none)) else (none)) else (some true)
def soundservicelaw05_GainRetargets.f (k : Nat) (l0 : List Int) (a1 : Int) : Option (Bool) := (soundservicelaw05_sane.f).bind fun t414 => (if t414 = true then (if (l0.length : Int) > 8 then (some true) else (soundservicelaw05_GainRetargets.l0 k a1 500 500 l0 (l0.length : Int) 0 500 500 0 0)) else (some false))
theorem soundservicelaw05_GainRetargets.mono_l : ∀ k, (∀ y0 y1 y2 y3 y4 y5 y6 y7 y8 y9, LeO (soundservicelaw05_GainRetargets.l0 k y0 y1 y2 y3 y4 y5 y6 y7 y8 y9) (soundservicelaw05_GainRetargets.l0 (k + 1) y0 y1 y2 y3 y4 y5 y6 y7 y8 y9))
  | 0 => fun _ _ _ _ _ _ _ _ _ _ r h => by simp [soundservicelaw05_GainRetargets.l0] at h
  | k + 1 => by
    have ih0 := soundservicelaw05_GainRetargets.mono_l k
    · intro y0 y1 y2 y3 y4 y5 y6 y7 y8 y9
      unfold soundservicelaw05_GainRetargets.l0
      repeat' first
      | (with_reducible exact ih0 _ _ _ _ _ _ _ _ _ _)
      | (with_reducible exact gain_Run.mono _ _ _ _ _ _ _)
      | (with_reducible exact LeO.refl _)
      | (with_reducible exact LeO.none _)
      | (with_reducible refine LeO.ite ?_ ?_)
      | (with_reducible refine LeO.bind ?_ (fun _ => ?_))
      | exact ih0 _ _ _ _ _ _ _ _ _ _
      | exact gain_Run.mono _ _ _ _ _ _ _
      | exact LeO.none _
      | refine LeO.ite ?_ ?_
      | refine LeO.bind ?_ (fun _ => ?_)
theorem soundservicelaw05_GainRetargets.mono : ∀ a0 a1 k, LeO (soundservicelaw05_GainRetargets.f k a0 a1) (soundservicelaw05_GainRetargets.f (k + 1) a0 a1) := by
  intro a0 a1 k
  have ih0 := soundservicelaw05_GainRetargets.mono_l k
  unfold soundservicelaw05_GainRetargets.f
  repeat' first
      | (with_reducible exact ih0 _ _ _ _ _ _ _ _ _ _)
      | (with_reducible exact gain_Run.mono _ _ _ _ _ _ _)
      | (with_reducible exact LeO.refl _)
      | (with_reducible exact LeO.none _)
      | (with_reducible refine LeO.ite ?_ ?_)
      | (with_reducible refine LeO.bind ?_ (fun _ => ?_))
      | exact ih0 _ _ _ _ _ _ _ _ _ _
      | exact gain_Run.mono _ _ _ _ _ _ _
      | exact LeO.none _
      | refine LeO.ite ?_ ?_
      | refine LeO.bind ?_ (fun _ => ?_)
def soundservicelaw05_GainRetargets.T14 : Bool × List (List Nat × List Nat) := (true, [([], []), ([], []), ([1], [1]), ([2, 2], [2]), ([3], [3]), ([0, 4], [0, 4]), ([5], [5]), ([6], [6]), ([6], [6]), ([6], [6]), ([8, 5, 0, 1, 2, 3, 4, 5, 6, 7, 8], [8]), ([9, 10, 0, 1, 2, 3, 4, 5, 6, 7, 8, 9, 10], [9])])
def soundservicelaw05_GainRetargets.B14 : List Nat := [0, 0, 2, 6, 14, 31, 63, 127, 127, 127, 511, 2047]
theorem soundservicelaw05_GainRetargets.tab14 : rtab .any (opsOf Try.f11 14) = soundservicelaw05_GainRetargets.T14 := by kernel_rfl
theorem soundservicelaw05_GainRetargets.bits14 : waitsOk soundservicelaw05_GainRetargets.T14.2 soundservicelaw05_GainRetargets.B14 = true := by kernel_rfl
set_option maxHeartbeats 8000000 in
set_option maxRecDepth 100000 in
theorem soundservicelaw05_GainRetargets.calls (k : Nat) (A0 : Option Addr) (c0 : Nat) (l0 : List Int) (a1 : Int) (r : Bool) (w : World) (hr0 : Kd.C (Kd.int .u16) w A0 l0.length l0) (hc0 : l0.length ≤ c0) (hr_ : r = true) (h : soundservicelaw05_GainRetargets.f k l0 a1 = some r) :
    Calls Try.prog 11 #[.slice A0 l0.length c0, .int .u8 a1] w fun e w' => e = .returned (.bool r) ∧ Below w.heap.size w w' := by
  have hu35 := Try.underlying35
  have hu49 := Try.underlying49
  have HR_ := Aside0.mk hr_
  clear hr_
  have HR0 := Aside0.mk hr0
  have HC0 := Aside0.mk hc0
  clear hr0 hc0
  have HB := Aside0.mk (Below.refl w.heap.size w)
  have H : ((soundservicelaw05_sane.f).bind fun t414 => (if t414 = true then (if (l0.length : Int) > 8 then (some true) else (soundservicelaw05_GainRetargets.l0 k a1 500 500 l0 (l0.length : Int) 0 500 500 0 0)) else (some false))) = some r := h
  clear h
  replace H := Option.bind_eq_some_iff.mp H
  obtain ⟨t414, A30, H⟩ := H
  replace H : (if t414 = true then (if (l0.length : Int) > 8 then (some true) else (soundservicelaw05_GainRetargets.l0 k a1 500 500 l0 (l0.length : Int) 0 500 500 0 0)) else (some false)) = some r := H
  have A3 := Aside0.mk A30
  clear A30
  by_cases c4 : t414 = true
  · subst c4
    have H1 : (if (l0.length : Int) > 8 then (some true) else (soundservicelaw05_GainRetargets.l0 k a1 500 500 l0 (l0.length : Int) 0 500 500 0 0)) = some r := by rw [if_pos rfl] at H; exact H
    clear H
    have H := H1
    clear H1
    by_cases c5 : (l0.length : Int) > 8
    · rw [if_pos c5] at H
      have c5b0 : decide (8 < (l0.length : Int)) = true := decide_eq_true c5
      have c5b1 : decide (8 < l0.length) = true := decide_eq_true (by omega)
      clear c5
      obtain rfl := Option.some.inj H
      go_enter Try.func11, Try.ntmps11
      go_wp2_with (first | ((with_reducible refine gate_callee (f := 12) rfl ?_); refine goesL_ (some 13) rfl rfl Try.func12 (by kernel_rfl) rfl #[] rfl (by (try simp only [List.map_toArray, List.map_cons, List.map_nil]); first | done | rfl | (simp only [List.length_drop, List.length_take]; rfl)) ?_; (with_reducible refine (soundservicelaw05_sane.calls  true _ A3.out).mono ?_); rintro e w6 ⟨rfl, hb⟩; refine ⟨_, rfl, ?_⟩; have n0_ := Aside0.mk (below_step (by repeat (first | (with_reducible first | exact HB.out | apply below_alloc | apply pw_below_drewN | apply below_drew1) | exact HB.out)) hb); clear HB; have HB := n0_; clear n0_; (try clear hb); (try clear hb2); (try clear hk); (try clear hi)))
      go_ret
      exact ⟨by first | rfl | (simp [errW_none, errW_some] <;> rfl) | (simp [*, errW_none, errW_some] <;> rfl), by repeat (first | (with_reducible first | exact HB.out | apply below_alloc | apply pw_below_drewN | apply below_drew1) | exact HB.out)⟩
    · rw [if_neg c5] at H
      have c5b0 : decide (8 < (l0.length : Int)) = false := decide_eq_false c5
      have c5b1 : decide (8 < l0.length) = false := decide_eq_false (by omega)
      clear c5
      have H' := Aside0.mk H
      clear H
      go_enter Try.func11, Try.ntmps11
      go_wp2_with (first | ((with_reducible refine gate_callee (f := 12) rfl ?_); refine goesL_ (some 13) rfl rfl Try.func12 (by kernel_rfl) rfl #[] rfl (by (try simp only [List.map_toArray, List.map_cons, List.map_nil]); first | done | rfl | (simp only [List.length_drop, List.length_take]; rfl)) ?_; (with_reducible refine (soundservicelaw05_sane.calls  true _ A3.out).mono ?_); rintro e w7 ⟨rfl, hb⟩; refine ⟨_, rfl, ?_⟩; have n0_ := Aside0.mk (below_step (by repeat (first | (with_reducible first | exact HB.out | apply below_alloc | apply pw_below_drewN | apply below_drew1) | exact HB.out)) hb); clear HB; have HB := n0_; clear n0_; (try clear hb); (try clear hb2); (try clear hk); (try clear hi)) | ((with_reducible refine gate_dst (N := 5) rfl ?_); refine box_event ?hg (N := 5) ?hd (cs := #[.int .i64 0, .int .i64 0, .int .i64 0, .int .i64 0]) (t := 35) ?hr ?_; (case hd => rfl); (case hg => rfl); (case hr => first | (go_simp; done) | (go_simp; rfl)); intro gb415 hg w8 hbox hb; have n0_ := Aside0.mk (below_step (by repeat (first | (with_reducible first | exact HB.out | apply below_alloc | apply pw_below_drewN | apply below_drew1) | exact HB.out)) hb); have n1_ := Aside0.mk (hbox); have n2_ := Aside0.mk ((by rw [hg]; exact (below_size (by repeat (first | (with_reducible first | exact HB.out | apply below_alloc | apply pw_below_drewN | apply below_drew1) | exact HB.out))) : w.heap.size ≤ gb415)); have n3_ := Aside0.mk ((by rw [hg]; exact (below_size (by repeat (first | (with_reducible first | exact HB.out | apply below_alloc | apply pw_below_drewN | apply below_drew1) | exact HB.out))) : w.heap.size ≤ gb415)); clear HB; have HB := n0_; have BK415 := n1_; have GW415 := n2_; have GE415 := n3_; clear n0_ n1_ n2_ n3_; clear hb hbox hg; have hcz9_0 : w8.cell? ⟨gb415, 0, none⟩ = some (.int .i64 0) := (blk_cell BK415.out 0).trans rfl; have hcz9_1 : w8.cell? ⟨gb415, 1, none⟩ = some (.int .i64 0) := (blk_cell BK415.out 1).trans rfl; have hcz9_2 : w8.cell? ⟨gb415, 2, none⟩ = some (.int .i64 0) := (blk_cell BK415.out 2).trans rfl; have hcz9_3 : w8.cell? ⟨gb415, 3, none⟩ = some (.int .i64 0) := (blk_cell BK415.out 3).trans rfl; have hfz9_0 := blk_frozen BK415.out 0; have hfz9_1 := blk_frozen BK415.out 1; have hfz9_2 := blk_frozen BK415.out 2; have hfz9_3 := blk_frozen BK415.out 3))
      go_loopg [6, 7, 21] k (fun kq v6 v7 v21 w' => ∃ (x6_1 : Int) (x7_1 : Int) (x21_1 : Int) (x416000_1 : Int) (x416001_1 : Int) (x416002_1 : Int) (x416003_1 : Int), v6 = .int .i64 x6_1 ∧ v7 = .int .i64 x7_1 ∧ v21 = .int .i64 x21_1 ∧ Aside0 (soundservicelaw05_GainRetargets.l0 kq a1 x6_1 x7_1 l0 (l0.length : Int) x21_1 x416000_1 x416001_1 x416002_1 x416003_1 = some r) ∧ Aside0 (kq ≤ k) ∧ Aside0 (w'.heap[gb415]? = some (.cells #[.int .i64 x416000_1, .int .i64 x416001_1, .int .i64 x416002_1, .int .i64 x416003_1] 35 (0, 0))) ∧ Aside0 (Below w.heap.size w w'))
      case atStart => exact ⟨(500), (500), (0), (500), (500), (0), (0), (by first | rfl | (simp; done) | (simp [*]; done)), (by first | rfl | (simp; done) | (simp [*]; done)), (by first | rfl | (simp; done) | (simp [*]; done)), H', ⟨Nat.le_refl _⟩, ⟨by (with_reducible repeat (first | refine blk_drewN ?_ _ | refine blk_drew ?_ | refine blk_alloc ?_ _)); refine blk_put (cs := #[.int .i64 500, .int .i64 500, .int .i64 0, .int .i64 0]) ?_ 3 _ rfl; (with_reducible repeat (first | refine blk_drewN ?_ _ | refine blk_drew ?_ | refine blk_alloc ?_ _)); refine blk_put (cs := #[.int .i64 500, .int .i64 500, .int .i64 0, .int .i64 0]) ?_ 2 _ rfl; (with_reducible repeat (first | refine blk_drewN ?_ _ | refine blk_drew ?_ | refine blk_alloc ?_ _)); refine blk_put (cs := #[.int .i64 500, .int .i64 0, .int .i64 0, .int .i64 0]) ?_ 1 _ rfl; (with_reducible repeat (first | refine blk_drewN ?_ _ | refine blk_drew ?_ | refine blk_alloc ?_ _)); refine blk_put (cs := #[.int .i64 0, .int .i64 0, .int .i64 0, .int .i64 0]) ?_ 0 _ rfl; (with_reducible repeat (first | refine blk_drewN ?_ _ | refine blk_drew ?_ | refine blk_alloc ?_ _)); exact BK415.out⟩, ⟨by repeat (first | (with_reducible first | exact HB.out | apply below_alloc | apply pw_below_drewN | apply below_drew1 | refine below_set ?_ GE415.out) | exact HB.out)⟩⟩
      case round =>
        clear H'
        try clear c1
        try clear p2
        try clear c4
        try clear c5
        try clear c5b0
        try clear c5b1
        try clear hcz9_0
        try clear hcz9_1
        try clear hcz9_2
        try clear hcz9_3
        try clear hfz9_0
        try clear hfz9_1
        try clear hfz9_2
        try clear hfz9_3
        obtain ⟨x6_1, x7_1, x21_1, x416000_1, x416001_1, x416002_1, x416003_1, rfl, rfl, rfl, HA, HK1, BK415, HB⟩ := hrel
        cases gk with
        | zero => exact absurd HA.out (by simp [soundservicelaw05_GainRetargets.l0])
        | succ k1 =>
          have H := HA.out
          clear HA
          simp only [soundservicelaw05_GainRetargets.l0] at H
          by_cases c10 : x21_1 < (l0.length : Int)
          · rw [if_pos c10] at H
            have c10b0 : decide (x21_1 < (l0.length : Int)) = true := decide_eq_true c10
            clear c10
            by_cases c11 : 0 ≤ x21_1
            · rw [if_pos c11] at H
              have c11b0 : decide (0 ≤ x21_1) = true := decide_eq_true c11
              clear c11
              by_cases c12 : x21_1 < (l0.length : Int)
              · rw [if_pos c12] at H
                have c12b0 : decide (x21_1 < (l0.length : Int)) = true := decide_eq_true c12
                clear c12
                obtain ⟨ji13, hji13⟩ : ∃ j_ : Int, (mn x6_1 (wrap64 (rd l0 x21_1))) = j_ := ⟨_, rfl⟩
                replace H : ((gain_Retarget.f x416000_1 x416001_1 x416002_1 x416003_1 (wrap64 (rd l0 x21_1)) 5).bind fun bt417 => (if bt417.2.2.2.2 = 0 then (if 0 ≤ (Int.tmod a1 8) then (if (Int.tmod a1 8 : Int).toNat ≤ 70368744177664 then ((gain_Run.f k1 bt417.1 bt417.2.1 bt417.2.2.1 bt417.2.2.2.1 1 (List.replicate (Int.tmod a1 8 : Int).toNat 0)).bind fun bt426 => ((gain_At.f bt426.2.2.1 bt426.2.2.2.1 bt426.2.2.2.2.1 bt426.2.2.2.2.2.1 0).bind fun t435 => (if bt426.2.2.2.2.2.2 = 0 then (if t435 < (ji13) then (some false) else (if t435 > (mx x7_1 (wrap64 (rd l0 x21_1))) then (some false) else (if (Int.tmod a1 8) ≥ 5 then (if t435 = (wrap64 (rd l0 x21_1)) then (soundservicelaw05_GainRetargets.l0 k1 a1 ji13 (mx x7_1 (wrap64 (rd l0 x21_1))) l0 (l0.length : Int) (wrap64 (x21_1 + 1)) bt426.2.2.1 bt426.2.2.2.1 bt426.2.2.2.2.1 bt426.2.2.2.2.2.1) else (some false)) else (soundservicelaw05_GainRetargets.l0 k1 a1 ji13 (mx x7_1 (wrap64 (rd l0 x21_1))) l0 (l0.length : Int) (wrap64 (x21_1 + 1)) bt426.2.2.1 bt426.2.2.2.1 bt426.2.2.2.2.1 bt426.2.2.2.2.2.1)))) else (some false)))) else (none)) else (none)) else (some false))) = some r := by first | (rw [hji13] at H; exact H) | (simp only [hji13] at H ⊢; exact H)
                have hji13_ : (if (wrap64 (rd l0 x21_1)) < x6_1 then (wrap64 (rd l0 x21_1)) else x6_1) = ji13 := hji13
                obtain ⟨ji14, hji14⟩ : ∃ j_ : Int, (mx x7_1 (wrap64 (rd l0 x21_1))) = j_ := ⟨_, rfl⟩
                replace H : ((gain_Retarget.f x416000_1 x416001_1 x416002_1 x416003_1 (wrap64 (rd l0 x21_1)) 5).bind fun bt417 => (if bt417.2.2.2.2 = 0 then (if 0 ≤ (Int.tmod a1 8) then (if (Int.tmod a1 8 : Int).toNat ≤ 70368744177664 then ((gain_Run.f k1 bt417.1 bt417.2.1 bt417.2.2.1 bt417.2.2.2.1 1 (List.replicate (Int.tmod a1 8 : Int).toNat 0)).bind fun bt426 => ((gain_At.f bt426.2.2.1 bt426.2.2.2.1 bt426.2.2.2.2.1 bt426.2.2.2.2.2.1 0).bind fun t435 => (if bt426.2.2.2.2.2.2 = 0 then (if t435 < (ji13) then (some false) else (if t435 > (ji14) then (some false) else (if (Int.tmod a1 8) ≥ 5 then (if t435 = (wrap64 (rd l0 x21_1)) then (soundservicelaw05_GainRetargets.l0 k1 a1 ji13 ji14 l0 (l0.length : Int) (wrap64 (x21_1 + 1)) bt426.2.2.1 bt426.2.2.2.1 bt426.2.2.2.2.1 bt426.2.2.2.2.2.1) else (some false)) else (soundservicelaw05_GainRetargets.l0 k1 a1 ji13 ji14 l0 (l0.length : Int) (wrap64 (x21_1 + 1)) bt426.2.2.1 bt426.2.2.2.1 bt426.2.2.2.2.1 bt426.2.2.2.2.2.1)))) else (some false)))) else (none)) else (none)) else (some false))) = some r := by first | (rw [hji14] at H; exact H) | (simp only [hji14] at H ⊢; exact H)
                have hji14_ : (if x7_1 < (wrap64 (rd l0 x21_1)) then (wrap64 (rd l0 x21_1)) else x7_1) = ji14 := hji14
                replace H := Option.bind_eq_some_iff.mp H
                obtain ⟨⟨t417, t418, t419, t420, t421⟩, A150, H⟩ := H
                replace H : (if t421 = 0 then (if 0 ≤ (Int.tmod a1 8) then (if (Int.tmod a1 8 : Int).toNat ≤ 70368744177664 then ((gain_Run.f k1 t417 t418 t419 t420 1 (List.replicate (Int.tmod a1 8 : Int).toNat 0)).bind fun bt426 => ((gain_At.f bt426.2.2.1 bt426.2.2.2.1 bt426.2.2.2.2.1 bt426.2.2.2.2.2.1 0).bind fun t435 => (if bt426.2.2.2.2.2.2 = 0 then (if t435 < (ji13) then (some false) else (if t435 > (ji14) then (some false) else (if (Int.tmod a1 8) ≥ 5 then (if t435 = (wrap64 (rd l0 x21_1)) then (soundservicelaw05_GainRetargets.l0 k1 a1 ji13 ji14 l0 (l0.length : Int) (wrap64 (x21_1 + 1)) bt426.2.2.1 bt426.2.2.2.1 bt426.2.2.2.2.1 bt426.2.2.2.2.2.1) else (some false)) else (soundservicelaw05_GainRetargets.l0 k1 a1 ji13 ji14 l0 (l0.length : Int) (wrap64 (x21_1 + 1)) bt426.2.2.1 bt426.2.2.2.1 bt426.2.2.2.2.1 bt426.2.2.2.2.2.1)))) else (some false)))) else (none)) else (none)) else (some false)) = some r := H
                have A15 := Aside0.mk A150
                clear A150
                by_cases c16 : t421 = 0
                · rw [if_pos c16] at H
                  have c16b0 : (t421 == 0) = true := beq_iff_eq.mpr c16
                  have c16b1 : (t421 != 0) = false := bne_eq_false_iff_eq.mpr c16
                  clear c16
                  obtain ⟨ji17, hji17⟩ : ∃ j_ : Int, (Int.tmod a1 8) = j_ := ⟨_, rfl⟩
                  replace H : (if 0 ≤ (ji17) then (if (ji17 : Int).toNat ≤ 70368744177664 then ((gain_Run.f k1 t417 t418 t419 t420 1 (List.replicate (ji17 : Int).toNat 0)).bind fun bt426 => ((gain_At.f bt426.2.2.1 bt426.2.2.2.1 bt426.2.2.2.2.1 bt426.2.2.2.2.2.1 0).bind fun t435 => (if bt426.2.2.2.2.2.2 = 0 then (if t435 < (ji13) then (some false) else (if t435 > (ji14) then (some false) else (if (ji17) ≥ 5 then (if t435 = (wrap64 (rd l0 x21_1)) then (soundservicelaw05_GainRetargets.l0 k1 a1 ji13 ji14 l0 (l0.length : Int) (wrap64 (x21_1 + 1)) bt426.2.2.1 bt426.2.2.2.1 bt426.2.2.2.2.1 bt426.2.2.2.2.2.1) else (some false)) else (soundservicelaw05_GainRetargets.l0 k1 a1 ji13 ji14 l0 (l0.length : Int) (wrap64 (x21_1 + 1)) bt426.2.2.1 bt426.2.2.2.1 bt426.2.2.2.2.1 bt426.2.2.2.2.2.1)))) else (some false)))) else (none)) else (none)) = some r := by first | (rw [hji17] at H; exact H) | (simp only [hji17] at H ⊢; exact H)
                  (try rw [hji17] at A15)
                  by_cases c18 : 0 ≤ (ji17)
                  · rw [if_pos c18] at H
                    have c18b0 := eq_true c18
                    have c18b1 : decide (0 ≤ (ji17)) = true := decide_eq_true c18
                    clear c18
                    by_cases c19 : (ji17 : Int).toNat ≤ 70368744177664
                    · rw [if_pos c19] at H
                      have c19b0 := eq_true c19
                      have c19b1 : decide ((ji17 : Int).toNat ≤ 70368744177664) = true := decide_eq_true c19
                      clear c19
                      obtain ⟨y423, hy423⟩ : ∃ y_ : List Int, y_ = (List.replicate (ji17 : Int).toNat 0) := ⟨_, rfl⟩
                      replace H : ((gain_Run.f k1 t417 t418 t419 t420 1 y423).bind fun bt426 => ((gain_At.f bt426.2.2.1 bt426.2.2.2.1 bt426.2.2.2.2.1 bt426.2.2.2.2.2.1 0).bind fun t435 => (if bt426.2.2.2.2.2.2 = 0 then (if t435 < (ji13) then (some false) else (if t435 > (ji14) then (some false) else (if (ji17) ≥ 5 then (if t435 = (wrap64 (rd l0 x21_1)) then (soundservicelaw05_GainRetargets.l0 k1 a1 ji13 ji14 l0 (l0.length : Int) (wrap64 (x21_1 + 1)) bt426.2.2.1 bt426.2.2.2.1 bt426.2.2.2.2.1 bt426.2.2.2.2.2.1) else (some false)) else (soundservicelaw05_GainRetargets.l0 k1 a1 ji13 ji14 l0 (l0.length : Int) (wrap64 (x21_1 + 1)) bt426.2.2.1 bt426.2.2.2.1 bt426.2.2.2.2.1 bt426.2.2.2.2.2.1)))) else (some false)))) = some r := by first | (rw [hy423]; with_reducible exact H) | (have H2_ := (Option.bind_some _ _).symm.trans H; rw [hy423]; with_reducible exact H2_) | (have H2_ := (Option.bind_some _ _).symm.trans H; with_reducible exact H2_) | with_reducible exact H | (rw [hy423]; exact H) | exact H
                      have Ny423 := Aside0.mk hy423
                      clear hy423
                      replace H := Option.bind_eq_some_iff.mp H
                      obtain ⟨⟨t426, t427, t430, t431, t432, t433, t434⟩, A200, H⟩ := H
                      replace H : ((gain_At.f t430 t431 t432 t433 0).bind fun t435 => (if t434 = 0 then (if t435 < (ji13) then (some false) else (if t435 > (ji14) then (some false) else (if (ji17) ≥ 5 then (if t435 = (wrap64 (rd l0 x21_1)) then (soundservicelaw05_GainRetargets.l0 k1 a1 ji13 ji14 l0 (l0.length : Int) (wrap64 (x21_1 + 1)) t430 t431 t432 t433) else (some false)) else (soundservicelaw05_GainRetargets.l0 k1 a1 ji13 ji14 l0 (l0.length : Int) (wrap64 (x21_1 + 1)) t430 t431 t432 t433)))) else (some false))) = some r := H
                      have A20 := Aside0.mk A200
                      clear A200
                      replace H := Option.bind_eq_some_iff.mp H
                      obtain ⟨t435, A210, H⟩ := H
                      replace H : (if t434 = 0 then (if t435 < (ji13) then (some false) else (if t435 > (ji14) then (some false) else (if (ji17) ≥ 5 then (if t435 = (wrap64 (rd l0 x21_1)) then (soundservicelaw05_GainRetargets.l0 k1 a1 ji13 ji14 l0 (l0.length : Int) (wrap64 (x21_1 + 1)) t430 t431 t432 t433) else (some false)) else (soundservicelaw05_GainRetargets.l0 k1 a1 ji13 ji14 l0 (l0.length : Int) (wrap64 (x21_1 + 1)) t430 t431 t432 t433)))) else (some false)) = some r := H
                      have A21 := Aside0.mk A210
                      clear A210
                      by_cases c22 : t434 = 0
                      · rw [if_pos c22] at H
                        have c22b0 : (t434 == 0) = true := beq_iff_eq.mpr c22
                        have c22b1 : (t434 != 0) = false := bne_eq_false_iff_eq.mpr c22
                        clear c22
                        by_cases c23 : t435 < (ji13)
                        · rw [if_pos c23] at H
                          have c23b0 : decide (t435 < (ji13)) = true := decide_eq_true c23
                          clear c23
                          exact absurd (H.trans (congrArg some HR_.out)) (by simp)
                        · rw [if_neg c23] at H
                          have c23b0 : decide (t435 < (ji13)) = false := decide_eq_false c23
                          clear c23
                          by_cases c24 : t435 > (ji14)
                          · rw [if_pos c24] at H
                            have c24b0 : decide ((ji14) < t435) = true := decide_eq_true c24
                            clear c24
                            exact absurd (H.trans (congrArg some HR_.out)) (by simp)
                          · rw [if_neg c24] at H
                            have c24b0 : decide ((ji14) < t435) = false := decide_eq_false c24
                            clear c24
                            by_cases c25 : (ji17) ≥ 5
                            · rw [if_pos c25] at H
                              have c25b0 : decide (5 ≤ (ji17)) = true := decide_eq_true c25
                              clear c25
                              by_cases c26 : t435 = (wrap64 (rd l0 x21_1))
                              · rw [if_pos c26] at H
                                have c26b0 : (t435 == (wrap64 (rd l0 x21_1))) = true := beq_iff_eq.mpr c26
                                have c26b1 : (t435 != (wrap64 (rd l0 x21_1))) = false := bne_eq_false_iff_eq.mpr c26
                                clear c26
                                have H' := Aside0.mk H
                                clear H
                                have p416 : 0 ≤ (x21_1 : Int) := of_decide_eq_true (by first | (with_reducible assumption) | assumption)
                                have q416 : x21_1 < (l0.length : Int) := of_decide_eq_true (by first | (with_reducible assumption) | assumption)
                                obtain ⟨ad416, e416, hx416_0⟩ := Kd.at_int HR0.out x21_1 p416 q416
                                cases e416
                                replace hx416_0 := (HB.out.cell (World.block_lt_of_cell? w _ hx416_0)).trans hx416_0
                                replace p416 := eq_true p416
                                replace q416 := eq_true q416
                                have hcz27_0 : wr.cell? ⟨gb415, 0, none⟩ = some (.int .i64 x416000_1) := (blk_cell BK415.out 0).trans rfl
                                have hcz27_1 : wr.cell? ⟨gb415, 1, none⟩ = some (.int .i64 x416001_1) := (blk_cell BK415.out 1).trans rfl
                                have hcz27_2 : wr.cell? ⟨gb415, 2, none⟩ = some (.int .i64 x416002_1) := (blk_cell BK415.out 2).trans rfl
                                have hcz27_3 : wr.cell? ⟨gb415, 3, none⟩ = some (.int .i64 x416003_1) := (blk_cell BK415.out 3).trans rfl
                                have hfz27_0 := blk_frozen BK415.out 0
                                have hfz27_1 := blk_frozen BK415.out 1
                                have hfz27_2 := blk_frozen BK415.out 2
                                have hfz27_3 := blk_frozen BK415.out 3
                                try go_wp2_with (first | ((with_reducible refine gate_callee (f := 24) rfl ?_); refine goesL_ (some 37) rfl rfl Try.func24 (by kernel_rfl) rfl #[.agg #[.int .i64 x416000_1, .int .i64 x416001_1, .int .i64 x416002_1, .int .i64 x416003_1], .int .i64 (wrap64 (rd l0 x21_1)), .int .i64 5] rfl (by (try simp only [List.map_toArray, List.map_cons, List.map_nil]); first | done | rfl | (simp only [List.length_drop, List.length_take]; rfl)) ?_; (with_reducible refine (gain_Retarget.calls x416000_1 x416001_1 x416002_1 x416003_1 (wrap64 (rd l0 x21_1)) 5 t417 t418 t419 t420 t421 _ A15.out).mono ?_); rintro e w28 ⟨rfl, hb⟩; refine ⟨_, rfl, ?_⟩; have n0_ := Aside0.mk (blk_below (g := gb415) (o := .cells #[.int .i64 x416000_1, .int .i64 x416001_1, .int .i64 x416002_1, .int .i64 x416003_1] 35 (0, 0)) (by (with_reducible repeat (first | refine blk_drewN ?_ _ | refine blk_drew ?_ | refine blk_alloc ?_ _)); exact BK415.out) hb); have n1_ := Aside0.mk (below_step (by repeat (first | (with_reducible first | exact HB.out | apply below_alloc | apply pw_below_drewN | apply below_drew1 | refine below_set ?_ GE415.out) | exact HB.out)) hb); clear BK415; clear HB; have BK415 := n0_; have HB := n1_; clear n0_ n1_; (try clear hb); (try clear hb2); (try clear hk); (try clear hi)) | ((with_reducible refine gate_dst (N := 10) rfl ?_); refine box_event ?hg (N := 10) ?hd (cs := #[.int .i64 0, .int .i64 0, .int .i64 0, .int .i64 0]) (t := 35) ?hr ?_; (case hd => rfl); (case hg => rfl); (case hr => first | (go_simp; done) | (go_simp; rfl)); intro gb422 hg w29 hbox hb; have n0_ := Aside0.mk (blk_below (g := gb415) (o := .cells #[.int .i64 x416000_1, .int .i64 x416001_1, .int .i64 x416002_1, .int .i64 x416003_1] 35 (0, 0)) (by (with_reducible repeat (first | refine blk_drewN ?_ _ | refine blk_drew ?_ | refine blk_alloc ?_ _)); exact BK415.out) hb); have n1_ := Aside0.mk (below_step (by repeat (first | (with_reducible first | exact HB.out | apply below_alloc | apply pw_below_drewN | apply below_drew1 | refine below_set ?_ GE415.out) | exact HB.out)) hb); have n2_ := Aside0.mk (hbox); have n3_ := Aside0.mk ((by rw [hg]; exact (below_size (by repeat (first | (with_reducible first | exact HB.out | apply below_alloc | apply pw_below_drewN | apply below_drew1 | refine below_set ?_ GE415.out) | exact HB.out))) : w.heap.size ≤ gb422)); have n4_ := Aside0.mk ((by rw [hg]; exact (below_size (by repeat (first | (with_reducible first | exact HB.out | apply below_alloc | apply pw_below_drewN | apply below_drew1 | refine below_set ?_ GE415.out) | exact HB.out))) : w.heap.size ≤ gb422)); have n5_ := Aside0.mk ((by rw [hg]; exact Nat.ne_of_lt (blk_lt (g := gb415) (o := .cells #[.int .i64 x416000_1, .int .i64 x416001_1, .int .i64 x416002_1, .int .i64 x416003_1] 35 (0, 0)) (by (with_reducible repeat (first | refine blk_drewN ?_ _ | refine blk_drew ?_ | refine blk_alloc ?_ _)); exact BK415.out)) : gb415 ≠ gb422)); have n6_ := Aside0.mk ((by rw [hg]; exact Nat.ne_of_gt (blk_lt (g := gb415) (o := .cells #[.int .i64 x416000_1, .int .i64 x416001_1, .int .i64 x416002_1, .int .i64 x416003_1] 35 (0, 0)) (by (with_reducible repeat (first | refine blk_drewN ?_ _ | refine blk_drew ?_ | refine blk_alloc ?_ _)); exact BK415.out)) : gb422 ≠ gb415)); clear BK415; clear HB; have BK415 := n0_; have HB := n1_; have BK422 := n2_; have GW422 := n3_; have GE422 := n4_; have NB415_422 := n5_; have NB422_415 := n6_; clear n0_ n1_ n2_ n3_ n4_ n5_ n6_; clear hb hbox hg; have hnb30 := NB422_415.out; have hnc30 := NB415_422.out; have hcz31_0 : w29.cell? ⟨gb422, 0, none⟩ = some (.int .i64 0) := (blk_cell BK422.out 0).trans rfl; have hcz31_1 : w29.cell? ⟨gb422, 1, none⟩ = some (.int .i64 0) := (blk_cell BK422.out 1).trans rfl; have hcz31_2 : w29.cell? ⟨gb422, 2, none⟩ = some (.int .i64 0) := (blk_cell BK422.out 2).trans rfl; have hcz31_3 : w29.cell? ⟨gb422, 3, none⟩ = some (.int .i64 0) := (blk_cell BK422.out 3).trans rfl; have hfz31_0 := blk_frozen BK422.out 0; have hfz31_1 := blk_frozen BK422.out 1; have hfz31_2 := blk_frozen BK422.out 2; have hfz31_3 := blk_frozen BK422.out 3))
                                have n0_ : Aside0 (((((w29.setCell ⟨gb422, 0, none⟩ (.int .i64 t417)).setCell ⟨gb422, 1, none⟩ (.int .i64 t418)).setCell ⟨gb422, 2, none⟩ (.int .i64 t419)).setCell ⟨gb422, 3, none⟩ (.int .i64 t420)).heap[gb415]? = some (.cells #[.int .i64 x416000_1, .int .i64 x416001_1, .int .i64 x416002_1, .int .i64 x416003_1] 35 (0, 0))) := ⟨by (with_reducible repeat (first | refine blk_drewN ?_ _ | refine blk_drew ?_ | refine blk_alloc ?_ _)); refine blk_far ?_ NB415_422.out _; (with_reducible repeat (first | refine blk_drewN ?_ _ | refine blk_drew ?_ | refine blk_alloc ?_ _)); refine blk_far ?_ NB415_422.out _; (with_reducible repeat (first | refine blk_drewN ?_ _ | refine blk_drew ?_ | refine blk_alloc ?_ _)); refine blk_far ?_ NB415_422.out _; (with_reducible repeat (first | refine blk_drewN ?_ _ | refine blk_drew ?_ | refine blk_alloc ?_ _)); refine blk_far ?_ NB415_422.out _; (with_reducible repeat (first | refine blk_drewN ?_ _ | refine blk_drew ?_ | refine blk_alloc ?_ _)); exact BK415.out⟩
                                have n1_ : Aside0 (((((w29.setCell ⟨gb422, 0, none⟩ (.int .i64 t417)).setCell ⟨gb422, 1, none⟩ (.int .i64 t418)).setCell ⟨gb422, 2, none⟩ (.int .i64 t419)).setCell ⟨gb422, 3, none⟩ (.int .i64 t420)).heap[gb422]? = some (.cells #[.int .i64 t417, .int .i64 t418, .int .i64 t419, .int .i64 t420] 35 (0, 0))) := ⟨by (with_reducible repeat (first | refine blk_drewN ?_ _ | refine blk_drew ?_ | refine blk_alloc ?_ _)); refine blk_put (cs := #[.int .i64 t417, .int .i64 t418, .int .i64 t419, .int .i64 0]) ?_ 3 _ rfl; (with_reducible repeat (first | refine blk_drewN ?_ _ | refine blk_drew ?_ | refine blk_alloc ?_ _)); refine blk_put (cs := #[.int .i64 t417, .int .i64 t418, .int .i64 0, .int .i64 0]) ?_ 2 _ rfl; (with_reducible repeat (first | refine blk_drewN ?_ _ | refine blk_drew ?_ | refine blk_alloc ?_ _)); refine blk_put (cs := #[.int .i64 t417, .int .i64 0, .int .i64 0, .int .i64 0]) ?_ 1 _ rfl; (with_reducible repeat (first | refine blk_drewN ?_ _ | refine blk_drew ?_ | refine blk_alloc ?_ _)); refine blk_put (cs := #[.int .i64 0, .int .i64 0, .int .i64 0, .int .i64 0]) ?_ 0 _ rfl; (with_reducible repeat (first | refine blk_drewN ?_ _ | refine blk_drew ?_ | refine blk_alloc ?_ _)); exact BK422.out⟩
                                have n2_ : Aside0 (Below w.heap.size w ((((w29.setCell ⟨gb422, 0, none⟩ (.int .i64 t417)).setCell ⟨gb422, 1, none⟩ (.int .i64 t418)).setCell ⟨gb422, 2, none⟩ (.int .i64 t419)).setCell ⟨gb422, 3, none⟩ (.int .i64 t420))) := ⟨by repeat (first | (with_reducible first | exact HB.out | apply below_alloc | apply pw_below_drewN | apply below_drew1 | refine below_set ?_ GE415.out | refine below_set ?_ GE422.out) | exact HB.out)⟩
                                (try clear BK415)
                                (try clear BK422)
                                (try clear HB)
                                generalize ((((w29.setCell ⟨gb422, 0, none⟩ (.int .i64 t417)).setCell ⟨gb422, 1, none⟩ (.int .i64 t418)).setCell ⟨gb422, 2, none⟩ (.int .i64 t419)).setCell ⟨gb422, 3, none⟩ (.int .i64 t420)) = w32 at n0_ n1_ n2_ ⊢
                                have BK415 := n0_
                                have BK422 := n1_
                                have HB := n2_
                                clear n0_ n1_ n2_
                                have n0_ := Aside0.mk (blk_drew BK415.out)
                                have n1_ := Aside0.mk (blk_drew BK422.out)
                                have n2_ := Aside0.mk (below_drew1 HB.out)
                                clear BK415
                                clear BK422
                                clear HB
                                have BK415 := n0_
                                have BK422 := n1_
                                have HB := n2_
                                clear n0_ n1_ n2_
                                refine start_ (n := 12) (S := fun w' => w'.cell? ⟨gb422, 0, none⟩ = some (.int .i64 t417) ∧ w'.cell? ⟨gb422, 1, none⟩ = some (.int .i64 t418) ∧ w'.cell? ⟨gb422, 2, none⟩ = some (.int .i64 t419) ∧ w'.cell? ⟨gb422, 3, none⟩ = some (.int .i64 t420)) (ds := []) #[false, false, false, false, false, false, false, false, false, false, false, false] (by kernel_rfl) rfl rfl ⟨(blk_cell BK422.out 0).trans rfl, (blk_cell BK422.out 1).trans rfl, (blk_cell BK422.out 2).trans rfl, (blk_cell BK422.out 3).trans rfl⟩ (fun hHeld => ?_); refine with_tabW soundservicelaw05_GainRetargets.tab14 soundservicelaw05_GainRetargets.bits14 (fun HT_ HW_ => ?_)
                                generalize w32.drew = w33 at BK415 BK422 HB hHeld ⊢
                                refine pure_ (i := 1) (N := some 44) (v := ?_) (a' := ?_) #[false, true, false, false, false, false, false, false, false, false, false, false] rfl rfl (any_of HT_.out (by kernel_rfl)) (fun _ _ _ h => h) (Or.inl ⟨by rfl, ?_⟩) ?_ ?_
                                rotate_left
                                · intro w'
                                  go_simp
                                  with_reducible rfl
                                rotate_left
                                · simp only [Act.put, List.setIfInBounds_toArray, List.set_cons_zero, List.set_cons_succ, i64_w, i32_w]
                                  rfl
                                refine pure_ (i := 2) (N := some 45) (v := ?_) (a' := ?_) #[false, true, true, false, false, false, false, false, false, false, false, false] rfl rfl (any_of HT_.out (by kernel_rfl)) (fun _ _ _ h => h) (Or.inl ⟨by rfl, ?_⟩) ?_ ?_
                                rotate_left
                                · intro w'
                                  go_simp
                                  with_reducible rfl
                                rotate_left
                                · simp only [Act.put, List.setIfInBounds_toArray, List.set_cons_zero, List.set_cons_succ, i64_w, i32_w]
                                  rfl
                                refine take_ (i := 0) (N := some 43) (v := ?_) (a' := ?_) #[true, true, true, false, false, false, false, false, false, false, false, false] rfl rfl (take_ofW HT_.out HW_.out (by kernel_rfl)) (fun _ _ _ h => h) (Or.inl ⟨by rfl, ?_⟩) hHeld ?_ ?_
                                rotate_left
                                · rintro w' ⟨s0, s1, s2, s3⟩
                                  go_simp
                                  with_reducible rfl
                                rotate_left
                                · simp only [Act.put, List.setIfInBounds_toArray, List.set_cons_zero, List.set_cons_succ, i64_w, i32_w]
                                  rfl
                                refine one_ (i := 3) (N := some 46) #[true, true, true, true, false, false, false, false, false, false, false, false] rfl rfl (one_of HT_.out (by kernel_rfl)) (by decide) (fun K hK => ?_)
                                refine Kd.R_makeK_step .u8 .u8 (Kd.int .i32) _ 21 (by rfl) (N := 46) rfl 25 _ _ rfl ji17 rfl rfl Try.underlying25 (.int .i32 0) 4 info21 rfl (by decide) (by omega) 0 (ok := fun _ => True) (okp := fun _ => True) rfl (fun _ hk => hk) trivial (of_decide_eq_true (by first | (with_reducible assumption) | assumption)) (Nat.le_trans (Nat.mul_le_mul_right _ (of_decide_eq_true (by first | (with_reducible assumption) | assumption) : ji17.toNat ≤ 70368744177664)) (by omega)) (Below.refl _ _) (Nat.le_refl _) ?_
                                intro v424 w34 ho35 hb hg_ hnew_
                                clear hg_ hnew_
                                (first | rw [← Ny423.out] at ho35 | (simp only [Int.reduceToNat] at ho35; rw [← Ny423.out] at ho35))
                                have n0_ := Aside0.mk (Kd.R_lower ho35 (below_size (by repeat (first | (with_reducible first | exact HB.out | apply below_alloc | apply pw_below_drewN | apply below_drew1 | refine below_set ?_ GE415.out | refine below_set ?_ GE422.out) | exact HB.out))))
                                have n1_ := Aside0.mk (blk_below (g := gb415) (o := .cells #[.int .i64 x416000_1, .int .i64 x416001_1, .int .i64 x416002_1, .int .i64 x416003_1] 35 (0, 0)) (by (with_reducible repeat (first | refine blk_drewN ?_ _ | refine blk_drew ?_ | refine blk_alloc ?_ _)); exact BK415.out) hb)
                                have n2_ := Aside0.mk (blk_below (g := gb422) (o := .cells #[.int .i64 t417, .int .i64 t418, .int .i64 t419, .int .i64 t420] 35 (0, 0)) (by (with_reducible repeat (first | refine blk_drewN ?_ _ | refine blk_drew ?_ | refine blk_alloc ?_ _)); exact BK422.out) hb)
                                have n3_ := Aside0.mk (below_step (by repeat (first | (with_reducible first | exact HB.out | apply below_alloc | apply pw_below_drewN | apply below_drew1 | refine below_set ?_ GE415.out | refine below_set ?_ GE422.out) | exact HB.out)) hb)
                                clear BK415
                                clear BK422
                                clear HB
                                have HO425 := n0_
                                have BK415 := n1_
                                have BK422 := n2_
                                have HB := n3_
                                clear n0_ n1_ n2_ n3_
                                clear hb ho35
                                obtain ⟨Ao36, co36, eo36⟩ := Kd.R_slice HO425.out
                                (first | subst eo36 | (injection eo36 with f1_ f2_ f3_; have f4_ := f1_.symm; have f5_ := f3_.symm; clear f1_ f2_ f3_; subst f4_; subst f5_))
                                refine hK.out _ _ ⟨(blk_cell BK422.out 0).trans rfl, (blk_cell BK422.out 1).trans rfl, (blk_cell BK422.out 2).trans rfl, (blk_cell BK422.out 3).trans rfl⟩ (fun hHeld => ?_)
                                clear hK K
                                refine norm_ (a' := ?_) ?_ ?_
                                rotate_left
                                · show Act.put _ (some 46) _ = _
                                  simp only [Act.put, List.setIfInBounds_toArray, List.set_cons_zero, List.set_cons_succ, i64_w, i32_w]
                                  rfl
                                refine pure_ (i := 4) (N := some 47) (v := ?_) (a' := ?_) #[true, true, true, true, true, false, false, false, false, false, false, false] rfl rfl (any_of HT_.out (by kernel_rfl)) (fun _ _ _ h => h) (Or.inl ⟨by rfl, ?_⟩) ?_ ?_
                                rotate_left
                                · intro w'
                                  go_simp
                                  with_reducible rfl
                                rotate_left
                                · simp only [Act.put, List.setIfInBounds_toArray, List.set_cons_zero, List.set_cons_succ, i64_w, i32_w]
                                  rfl
                                refine one_ (i := 5) (N := some 48) #[true, true, true, true, true, true, false, false, false, false, false, false] rfl rfl (one_of HT_.out (by kernel_rfl)) (by decide) (fun K hK => ?_)
                                refine goes_ Try.func31 (by kernel_rfl) rfl #[.agg #[.int .i64 t417, .int .i64 t418, .int .i64 t419, .int .i64 t420], .agg #[.int .i64 1, .slice Ao36 y423.length co36]] (by rfl) rfl rfl (by (try simp only [List.map_toArray, List.map_cons, List.map_nil]); first | done | rfl | (simp only [List.length_drop, List.length_take]; rfl)) ?_
                                with_reducible refine (gain_Run.calls k1 t417 t418 t419 t420 1 _ _ y423 t426 t427 t430 t431 t432 t433 t434 _ ?side1 ?side2 A20.out).mono ?_
                                (case side1 => repeat (first | exact (Kd.R_reads' HO425.out).2.2 | (with_reducible refine Kd.C_alloc ?_ _) | (with_reducible refine Kd.C_drewN ?_ _) | (with_reducible refine Kd.C_drew ?_)))
                                (case side2 => exact (Kd.R_reads' HO425.out).2.1)
                                rintro e w37 ⟨v428, rfl, ho0, hb⟩
                                refine ⟨_, rfl, ?_⟩
                                have n0_ := Aside0.mk (Kd.R_elder' (by (with_reducible repeat (first | apply Kd.R_alloc | apply Kd.R_drewN | apply Kd.R_drew)); exact HO425.out) (Kd.R_base ho0) hb)
                                have n1_ := Aside0.mk (Kd.R_lower (Kd.R_new' ho0 (Kd.R_lt (by (with_reducible repeat (first | apply Kd.R_alloc | apply Kd.R_drewN | apply Kd.R_drew)); exact HO425.out))) (below_size (by repeat (first | (with_reducible first | exact HB.out | apply below_alloc | apply pw_below_drewN | apply below_drew1 | refine below_set ?_ GE415.out | refine below_set ?_ GE422.out) | exact HB.out))))
                                have n2_ := Aside0.mk (blk_below (g := gb415) (o := .cells #[.int .i64 x416000_1, .int .i64 x416001_1, .int .i64 x416002_1, .int .i64 x416003_1] 35 (0, 0)) (by (with_reducible repeat (first | refine blk_drewN ?_ _ | refine blk_drew ?_ | refine blk_alloc ?_ _)); exact BK415.out) hb)
                                have n3_ := Aside0.mk (blk_below (g := gb422) (o := .cells #[.int .i64 t417, .int .i64 t418, .int .i64 t419, .int .i64 t420] 35 (0, 0)) (by (with_reducible repeat (first | refine blk_drewN ?_ _ | refine blk_drew ?_ | refine blk_alloc ?_ _)); exact BK422.out) hb)
                                have n4_ := Aside0.mk (below_step (by repeat (first | (with_reducible first | exact HB.out | apply below_alloc | apply pw_below_drewN | apply below_drew1 | refine below_set ?_ GE415.out | refine below_set ?_ GE422.out) | exact HB.out)) hb)
                                clear HO425
                                clear BK415
                                clear BK422
                                clear HB
                                have HO425 := n0_
                                have HO429 := n1_
                                have BK415 := n2_
                                have BK422 := n3_
                                have HB := n4_
                                clear n0_ n1_ n2_ n3_ n4_
                                (try clear hb)
                                (try clear hb2)
                                (try clear hk)
                                (try clear hi)
                                (try clear ho0)
                                refine hK.out _ _ ⟨(blk_cell BK422.out 0).trans rfl, (blk_cell BK422.out 1).trans rfl, (blk_cell BK422.out 2).trans rfl, (blk_cell BK422.out 3).trans rfl⟩ (fun hHeld => ?_)
                                clear hK K
                                refine norm_ (a' := ?_) ?_ ?_
                                rotate_left
                                · show Act.put _ (some 48) _ = _
                                  simp only [Act.put, List.setIfInBounds_toArray, List.set_cons_zero, List.set_cons_succ, i64_w, i32_w]
                                  rfl
                                refine pure_ (i := 6) (N := some 42) (v := ?_) (a' := ?_) #[true, true, true, true, true, true, true, false, false, false, false, false] rfl rfl (any_of HT_.out (by kernel_rfl)) (fun _ _ _ h => h) (Or.inl ⟨by rfl, ?_⟩) ?_ ?_
                                rotate_left
                                · intro w'
                                  go_simp
                                  with_reducible rfl
                                rotate_left
                                · simp only [Act.put, List.setIfInBounds_toArray, List.set_cons_zero, List.set_cons_succ, i64_w, i32_w]
                                  rfl
                                refine pure_ (i := 7) (N := some 49) (v := ?_) (a' := ?_) #[true, true, true, true, true, true, true, true, false, false, false, false] rfl rfl (any_of HT_.out (by kernel_rfl)) (fun _ _ _ h => h) (Or.inl ⟨by rfl, ?_⟩) ?_ ?_
                                rotate_left
                                · intro w'
                                  go_simp
                                  with_reducible rfl
                                rotate_left
                                · simp only [Act.put, List.setIfInBounds_toArray, List.set_cons_zero, List.set_cons_succ, i64_w, i32_w]
                                  rfl
                                refine pure_ (i := 8) (N := some 50) (v := ?_) (a' := ?_) #[true, true, true, true, true, true, true, true, true, false, false, false] rfl rfl (any_of HT_.out (by kernel_rfl)) (fun _ _ _ h => h) (Or.inl ⟨by rfl, ?_⟩) ?_ ?_
                                rotate_left
                                · intro w'
                                  go_simp
                                  with_reducible rfl
                                rotate_left
                                · simp only [Act.put, List.setIfInBounds_toArray, List.set_cons_zero, List.set_cons_succ, i64_w, i32_w]
                                  rfl
                                refine pure_ (i := 9) (N := some 51) (v := ?_) (a' := ?_) #[true, true, true, true, true, true, true, true, true, true, false, false] rfl rfl (any_of HT_.out (by kernel_rfl)) (fun _ _ _ h => h) (Or.inl ⟨by rfl, ?_⟩) ?_ ?_
                                rotate_left
                                · intro w'
                                  go_simp
                                  with_reducible rfl
                                rotate_left
                                · simp only [Act.put, List.setIfInBounds_toArray, List.set_cons_zero, List.set_cons_succ, i64_w, i32_w]
                                  rfl
                                refine one_ (i := 10) (N := none) #[true, true, true, true, true, true, true, true, true, true, true, false] rfl rfl (one_of HT_.out (by kernel_rfl)) (by decide) (fun K hK => ?_)
                                have hs38 : w37.cell? ⟨gb415, 0, none⟩ = some (.int .i64 x416000_1) := (blk_cell BK415.out 0).trans rfl
                                have hfs38 := blk_frozen BK415.out 0
                                have hns38_1 := NB422_415.out
                                have hms38_1 := NB415_422.out
                                have hs39 : w37.cell? ⟨gb415, 1, none⟩ = some (.int .i64 x416001_1) := (blk_cell BK415.out 1).trans rfl
                                have hfs39 := blk_frozen BK415.out 1
                                have hns39_1 := NB422_415.out
                                have hms39_1 := NB415_422.out
                                have hs40 : w37.cell? ⟨gb415, 2, none⟩ = some (.int .i64 x416002_1) := (blk_cell BK415.out 2).trans rfl
                                have hfs40 := blk_frozen BK415.out 2
                                have hns40_1 := NB422_415.out
                                have hms40_1 := NB415_422.out
                                have hs41 : w37.cell? ⟨gb415, 3, none⟩ = some (.int .i64 x416003_1) := (blk_cell BK415.out 3).trans rfl
                                have hfs41 := blk_frozen BK415.out 3
                                have hns41_1 := NB422_415.out
                                have hms41_1 := NB415_422.out
                                refine skip_ (w1 := ?_) (by rfl) rfl ?_ ?_
                                rotate_left
                                · go_simp
                                  rfl
                                refine hK.out _ _ ⟨((cell_far (p := ⟨gb415, _, none⟩) NB422_415.out _).trans (((cell_far (p := ⟨gb415, _, none⟩) NB422_415.out _).trans (((cell_far (p := ⟨gb415, _, none⟩) NB422_415.out _).trans (((cell_far (p := ⟨gb415, _, none⟩) NB422_415.out _).trans (hHeld.1)))))))), ((cell_far (p := ⟨gb415, _, none⟩) NB422_415.out _).trans (((cell_far (p := ⟨gb415, _, none⟩) NB422_415.out _).trans (((cell_far (p := ⟨gb415, _, none⟩) NB422_415.out _).trans (((cell_far (p := ⟨gb415, _, none⟩) NB422_415.out _).trans (hHeld.2.1)))))))), ((cell_far (p := ⟨gb415, _, none⟩) NB422_415.out _).trans (((cell_far (p := ⟨gb415, _, none⟩) NB422_415.out _).trans (((cell_far (p := ⟨gb415, _, none⟩) NB422_415.out _).trans (((cell_far (p := ⟨gb415, _, none⟩) NB422_415.out _).trans (hHeld.2.2.1)))))))), ((cell_far (p := ⟨gb415, _, none⟩) NB422_415.out _).trans (((cell_far (p := ⟨gb415, _, none⟩) NB422_415.out _).trans (((cell_far (p := ⟨gb415, _, none⟩) NB422_415.out _).trans (((cell_far (p := ⟨gb415, _, none⟩) NB422_415.out _).trans (hHeld.2.2.2))))))))⟩ (fun hHeld => ?_)
                                clear hK K
                                refine pure_ (i := 11) (N := some 11) (v := ?_) (a' := ?_) #[true, true, true, true, true, true, true, true, true, true, true, true] rfl rfl (any_of HT_.out (by kernel_rfl)) (fun _ _ _ h => h) (Or.inl ⟨by rfl, ?_⟩) ?_ ?_
                                rotate_left
                                · intro w'
                                  go_simp
                                  with_reducible rfl
                                rotate_left
                                · simp only [Act.put, List.setIfInBounds_toArray, List.set_cons_zero, List.set_cons_succ, i64_w, i32_w]
                                  rfl
                                refine done_ (done_of HT_.out (by kernel_rfl)) ?_
                                have hcz42_0 : w37.cell? ⟨gb415, 0, none⟩ = some (.int .i64 x416000_1) := (blk_cell BK415.out 0).trans rfl
                                have hcz42_1 : w37.cell? ⟨gb415, 1, none⟩ = some (.int .i64 x416001_1) := (blk_cell BK415.out 1).trans rfl
                                have hcz42_2 : w37.cell? ⟨gb415, 2, none⟩ = some (.int .i64 x416002_1) := (blk_cell BK415.out 2).trans rfl
                                have hcz42_3 : w37.cell? ⟨gb415, 3, none⟩ = some (.int .i64 x416003_1) := (blk_cell BK415.out 3).trans rfl
                                have hfz42_0 := blk_frozen BK415.out 0
                                have hfz42_1 := blk_frozen BK415.out 1
                                have hfz42_2 := blk_frozen BK415.out 2
                                have hfz42_3 := blk_frozen BK415.out 3
                                try go_wp2_with (first | ((with_reducible refine gate_callee (f := 22) rfl ?_); refine goesL_ (some 53) rfl rfl Try.func22 (by kernel_rfl) rfl #[.agg #[.int .i64 t430, .int .i64 t431, .int .i64 t432, .int .i64 t433], .int .i64 0] rfl (by (try simp only [List.map_toArray, List.map_cons, List.map_nil]); first | done | rfl | (simp only [List.length_drop, List.length_take]; rfl)) ?_; (with_reducible refine (gain_At.calls t430 t431 t432 t433 0 t435 _ A21.out).mono ?_); rintro e w43 ⟨rfl, hb⟩; refine ⟨_, rfl, ?_⟩; have n0_ := Aside0.mk (Kd.R_below (by (with_reducible repeat (first | apply Kd.R_alloc | apply Kd.R_drewN | apply Kd.R_drew)); exact (Kd.R_mono (Kd.R_far (p := ⟨gb415, 3, none⟩) (Kd.R_far (p := ⟨gb415, 2, none⟩) (Kd.R_far (p := ⟨gb415, 1, none⟩) (Kd.R_far (p := ⟨gb415, 0, none⟩) (Kd.R_types HO425.out BK415.out (by decide)) (fun _ hk => hk.2) (.int .i64 t430)) (fun _ hk => hk.2) (.int .i64 t431)) (fun _ hk => hk.2) (.int .i64 t432)) (fun _ hk => hk.2) (.int .i64 t433)) (fun _ h_ => h_.1))) hb); have n1_ := Aside0.mk (Kd.R_below (by (with_reducible repeat (first | apply Kd.R_alloc | apply Kd.R_drewN | apply Kd.R_drew)); exact (Kd.R_mono (Kd.R_far (p := ⟨gb415, 3, none⟩) (Kd.R_far (p := ⟨gb415, 2, none⟩) (Kd.R_far (p := ⟨gb415, 1, none⟩) (Kd.R_far (p := ⟨gb415, 0, none⟩) (Kd.R_types HO429.out BK415.out (by decide)) (fun _ hk => hk.2) (.int .i64 t430)) (fun _ hk => hk.2) (.int .i64 t431)) (fun _ hk => hk.2) (.int .i64 t432)) (fun _ hk => hk.2) (.int .i64 t433)) (fun _ h_ => h_.1))) hb); have n2_ := Aside0.mk (blk_below (g := gb415) (o := .cells #[.int .i64 t430, .int .i64 t431, .int .i64 t432, .int .i64 t433] 35 (0, 0)) (by (with_reducible repeat (first | refine blk_drewN ?_ _ | refine blk_drew ?_ | refine blk_alloc ?_ _)); refine blk_put (cs := #[.int .i64 t430, .int .i64 t431, .int .i64 t432, .int .i64 x416003_1]) ?_ 3 _ rfl; (with_reducible repeat (first | refine blk_drewN ?_ _ | refine blk_drew ?_ | refine blk_alloc ?_ _)); refine blk_put (cs := #[.int .i64 t430, .int .i64 t431, .int .i64 x416002_1, .int .i64 x416003_1]) ?_ 2 _ rfl; (with_reducible repeat (first | refine blk_drewN ?_ _ | refine blk_drew ?_ | refine blk_alloc ?_ _)); refine blk_put (cs := #[.int .i64 t430, .int .i64 x416001_1, .int .i64 x416002_1, .int .i64 x416003_1]) ?_ 1 _ rfl; (with_reducible repeat (first | refine blk_drewN ?_ _ | refine blk_drew ?_ | refine blk_alloc ?_ _)); refine blk_put (cs := #[.int .i64 x416000_1, .int .i64 x416001_1, .int .i64 x416002_1, .int .i64 x416003_1]) ?_ 0 _ rfl; (with_reducible repeat (first | refine blk_drewN ?_ _ | refine blk_drew ?_ | refine blk_alloc ?_ _)); exact BK415.out) hb); have n3_ := Aside0.mk (blk_below (g := gb422) (o := .cells #[.int .i64 t417, .int .i64 t418, .int .i64 t419, .int .i64 t420] 35 (0, 0)) (by (with_reducible repeat (first | refine blk_drewN ?_ _ | refine blk_drew ?_ | refine blk_alloc ?_ _)); refine blk_far ?_ NB422_415.out _; (with_reducible repeat (first | refine blk_drewN ?_ _ | refine blk_drew ?_ | refine blk_alloc ?_ _)); refine blk_far ?_ NB422_415.out _; (with_reducible repeat (first | refine blk_drewN ?_ _ | refine blk_drew ?_ | refine blk_alloc ?_ _)); refine blk_far ?_ NB422_415.out _; (with_reducible repeat (first | refine blk_drewN ?_ _ | refine blk_drew ?_ | refine blk_alloc ?_ _)); refine blk_far ?_ NB422_415.out _; (with_reducible repeat (first | refine blk_drewN ?_ _ | refine blk_drew ?_ | refine blk_alloc ?_ _)); exact BK422.out) hb); have n4_ := Aside0.mk (below_step (by repeat (first | (with_reducible first | exact HB.out | apply below_alloc | apply pw_below_drewN | apply below_drew1 | refine below_set ?_ GE415.out | refine below_set ?_ GE422.out) | exact HB.out)) hb); clear HO425; clear HO429; clear BK415; clear BK422; clear HB; have HO425 := n0_; have HO429 := n1_; have BK415 := n2_; have BK422 := n3_; have HB := n4_; clear n0_ n1_ n2_ n3_ n4_; (try clear hb); (try clear hb2); (try clear hk); (try clear hi)))
                                go_roundg k1
                                case measure => have := HK1.out; omega
                                case rel => exact ⟨(ji13), (ji14), (wrap64 (x21_1 + 1)), (t430), (t431), (t432), (t433), (by first | rfl | (simp; done) | (simp only [← hji13] <;> (first | rfl | simp)) | (simp [*]; done)), (by first | rfl | (simp; done) | (simp only [← hji14] <;> (first | rfl | simp)) | (simp [*]; done)), (by first | rfl | (simp; done) | (simp [*]; done)), H', ⟨by have := HK1.out; omega⟩, ⟨by (with_reducible repeat (first | refine blk_drewN ?_ _ | refine blk_drew ?_ | refine blk_alloc ?_ _)); exact BK415.out⟩, ⟨by repeat (first | (with_reducible first | exact HB.out | apply below_alloc | apply pw_below_drewN | apply below_drew1 | refine below_set ?_ GE415.out | refine below_set ?_ GE422.out) | exact HB.out)⟩⟩
                              · rw [if_neg c26] at H
                                have c26b0 : (t435 == (wrap64 (rd l0 x21_1))) = false := beq_eq_false_iff_ne.mpr c26
                                have c26b1 : (t435 != (wrap64 (rd l0 x21_1))) = true := bne_iff_ne.mpr c26
                                exact absurd (H.trans (congrArg some HR_.out)) (by simp)
                            · rw [if_neg c25] at H
                              have c25b0 : decide (5 ≤ (ji17)) = false := decide_eq_false c25
                              clear c25
                              have H' := Aside0.mk H
                              clear H
                              have p416 : 0 ≤ (x21_1 : Int) := of_decide_eq_true (by first | (with_reducible assumption) | assumption)
                              have q416 : x21_1 < (l0.length : Int) := of_decide_eq_true (by first | (with_reducible assumption) | assumption)
                              obtain ⟨ad416, e416, hx416_0⟩ := Kd.at_int HR0.out x21_1 p416 q416
                              cases e416
                              replace hx416_0 := (HB.out.cell (World.block_lt_of_cell? w _ hx416_0)).trans hx416_0
                              replace p416 := eq_true p416
                              replace q416 := eq_true q416
                              have hcz44_0 : wr.cell? ⟨gb415, 0, none⟩ = some (.int .i64 x416000_1) := (blk_cell BK415.out 0).trans rfl
                              have hcz44_1 : wr.cell? ⟨gb415, 1, none⟩ = some (.int .i64 x416001_1) := (blk_cell BK415.out 1).trans rfl
                              have hcz44_2 : wr.cell? ⟨gb415, 2, none⟩ = some (.int .i64 x416002_1) := (blk_cell BK415.out 2).trans rfl
                              have hcz44_3 : wr.cell? ⟨gb415, 3, none⟩ = some (.int .i64 x416003_1) := (blk_cell BK415.out 3).trans rfl
                              have hfz44_0 := blk_frozen BK415.out 0
                              have hfz44_1 := blk_frozen BK415.out 1
                              have hfz44_2 := blk_frozen BK415.out 2
                              have hfz44_3 := blk_frozen BK415.out 3
                              try go_wp2_with (first | ((with_reducible refine gate_callee (f := 24) rfl ?_); refine goesL_ (some 37) rfl rfl Try.func24 (by kernel_rfl) rfl #[.agg #[.int .i64 x416000_1, .int .i64 x416001_1, .int .i64 x416002_1, .int .i64 x416003_1], .int .i64 (wrap64 (rd l0 x21_1)), .int .i64 5] rfl (by (try simp only [List.map_toArray, List.map_cons, List.map_nil]); first | done | rfl | (simp only [List.length_drop, List.length_take]; rfl)) ?_; (with_reducible refine (gain_Retarget.calls x416000_1 x416001_1 x416002_1 x416003_1 (wrap64 (rd l0 x21_1)) 5 t417 t418 t419 t420 t421 _ A15.out).mono ?_); rintro e w45 ⟨rfl, hb⟩; refine ⟨_, rfl, ?_⟩; have n0_ := Aside0.mk (blk_below (g := gb415) (o := .cells #[.int .i64 x416000_1, .int .i64 x416001_1, .int .i64 x416002_1, .int .i64 x416003_1] 35 (0, 0)) (by (with_reducible repeat (first | refine blk_drewN ?_ _ | refine blk_drew ?_ | refine blk_alloc ?_ _)); exact BK415.out) hb); have n1_ := Aside0.mk (below_step (by repeat (first | (with_reducible first | exact HB.out | apply below_alloc | apply pw_below_drewN | apply below_drew1 | refine below_set ?_ GE415.out) | exact HB.out)) hb); clear BK415; clear HB; have BK415 := n0_; have HB := n1_; clear n0_ n1_; (try clear hb); (try clear hb2); (try clear hk); (try clear hi)) | ((with_reducible refine gate_dst (N := 10) rfl ?_); refine box_event ?hg (N := 10) ?hd (cs := #[.int .i64 0, .int .i64 0, .int .i64 0, .int .i64 0]) (t := 35) ?hr ?_; (case hd => rfl); (case hg => rfl); (case hr => first | (go_simp; done) | (go_simp; rfl)); intro gb422 hg w46 hbox hb; have n0_ := Aside0.mk (blk_below (g := gb415) (o := .cells #[.int .i64 x416000_1, .int .i64 x416001_1, .int .i64 x416002_1, .int .i64 x416003_1] 35 (0, 0)) (by (with_reducible repeat (first | refine blk_drewN ?_ _ | refine blk_drew ?_ | refine blk_alloc ?_ _)); exact BK415.out) hb); have n1_ := Aside0.mk (below_step (by repeat (first | (with_reducible first | exact HB.out | apply below_alloc | apply pw_below_drewN | apply below_drew1 | refine below_set ?_ GE415.out) | exact HB.out)) hb); have n2_ := Aside0.mk (hbox); have n3_ := Aside0.mk ((by rw [hg]; exact (below_size (by repeat (first | (with_reducible first | exact HB.out | apply below_alloc | apply pw_below_drewN | apply below_drew1 | refine below_set ?_ GE415.out) | exact HB.out))) : w.heap.size ≤ gb422)); have n4_ := Aside0.mk ((by rw [hg]; exact (below_size (by repeat (first | (with_reducible first | exact HB.out | apply below_alloc | apply pw_below_drewN | apply below_drew1 | refine below_set ?_ GE415.out) | exact HB.out))) : w.heap.size ≤ gb422)); have n5_ := Aside0.mk ((by rw [hg]; exact Nat.ne_of_lt (blk_lt (g := gb415) (o := .cells #[.int .i64 x416000_1, .int .i64 x416001_1, .int .i64 x416002_1, .int .i64 x416003_1] 35 (0, 0)) (by (with_reducible repeat (first | refine blk_drewN ?_ _ | refine blk_drew ?_ | refine blk_alloc ?_ _)); exact BK415.out)) : gb415 ≠ gb422)); have n6_ := Aside0.mk ((by rw [hg]; exact Nat.ne_of_gt (blk_lt (g := gb415) (o := .cells #[.int .i64 x416000_1, .int .i64 x416001_1, .int .i64 x416002_1, .int .i64 x416003_1] 35 (0, 0)) (by (with_reducible repeat (first | refine blk_drewN ?_ _ | refine blk_drew ?_ | refine blk_alloc ?_ _)); exact BK415.out)) : gb422 ≠ gb415)); clear BK415; clear HB; have BK415 := n0_; have HB := n1_; have BK422 := n2_; have GW422 := n3_; have GE422 := n4_; have NB415_422 := n5_; have NB422_415 := n6_; clear n0_ n1_ n2_ n3_ n4_ n5_ n6_; clear hb hbox hg; have hnb47 := NB422_415.out; have hnc47 := NB415_422.out; have hcz48_0 : w46.cell? ⟨gb422, 0, none⟩ = some (.int .i64 0) := (blk_cell BK422.out 0).trans rfl; have hcz48_1 : w46.cell? ⟨gb422, 1, none⟩ = some (.int .i64 0) := (blk_cell BK422.out 1).trans rfl; have hcz48_2 : w46.cell? ⟨gb422, 2, none⟩ = some (.int .i64 0) := (blk_cell BK422.out 2).trans rfl; have hcz48_3 : w46.cell? ⟨gb422, 3, none⟩ = some (.int .i64 0) := (blk_cell BK422.out 3).trans rfl; have hfz48_0 := blk_frozen BK422.out 0; have hfz48_1 := blk_frozen BK422.out 1; have hfz48_2 := blk_frozen BK422.out 2; have hfz48_3 := blk_frozen BK422.out 3))
                              have n0_ : Aside0 (((((w46.setCell ⟨gb422, 0, none⟩ (.int .i64 t417)).setCell ⟨gb422, 1, none⟩ (.int .i64 t418)).setCell ⟨gb422, 2, none⟩ (.int .i64 t419)).setCell ⟨gb422, 3, none⟩ (.int .i64 t420)).heap[gb415]? = some (.cells #[.int .i64 x416000_1, .int .i64 x416001_1, .int .i64 x416002_1, .int .i64 x416003_1] 35 (0, 0))) := ⟨by (with_reducible repeat (first | refine blk_drewN ?_ _ | refine blk_drew ?_ | refine blk_alloc ?_ _)); refine blk_far ?_ NB415_422.out _; (with_reducible repeat (first | refine blk_drewN ?_ _ | refine blk_drew ?_ | refine blk_alloc ?_ _)); refine blk_far ?_ NB415_422.out _; (with_reducible repeat (first | refine blk_drewN ?_ _ | refine blk_drew ?_ | refine blk_alloc ?_ _)); refine blk_far ?_ NB415_422.out _; (with_reducible repeat (first | refine blk_drewN ?_ _ | refine blk_drew ?_ | refine blk_alloc ?_ _)); refine blk_far ?_ NB415_422.out _; (with_reducible repeat (first | refine blk_drewN ?_ _ | refine blk_drew ?_ | refine blk_alloc ?_ _)); exact BK415.out⟩
                              have n1_ : Aside0 (((((w46.setCell ⟨gb422, 0, none⟩ (.int .i64 t417)).setCell ⟨gb422, 1, none⟩ (.int .i64 t418)).setCell ⟨gb422, 2, none⟩ (.int .i64 t419)).setCell ⟨gb422, 3, none⟩ (.int .i64 t420)).heap[gb422]? = some (.cells #[.int .i64 t417, .int .i64 t418, .int .i64 t419, .int .i64 t420] 35 (0, 0))) := ⟨by (with_reducible repeat (first | refine blk_drewN ?_ _ | refine blk_drew ?_ | refine blk_alloc ?_ _)); refine blk_put (cs := #[.int .i64 t417, .int .i64 t418, .int .i64 t419, .int .i64 0]) ?_ 3 _ rfl; (with_reducible repeat (first | refine blk_drewN ?_ _ | refine blk_drew ?_ | refine blk_alloc ?_ _)); refine blk_put (cs := #[.int .i64 t417, .int .i64 t418, .int .i64 0, .int .i64 0]) ?_ 2 _ rfl; (with_reducible repeat (first | refine blk_drewN ?_ _ | refine blk_drew ?_ | refine blk_alloc ?_ _)); refine blk_put (cs := #[.int .i64 t417, .int .i64 0, .int .i64 0, .int .i64 0]) ?_ 1 _ rfl; (with_reducible repeat (first | refine blk_drewN ?_ _ | refine blk_drew ?_ | refine blk_alloc ?_ _)); refine blk_put (cs := #[.int .i64 0, .int .i64 0, .int .i64 0, .int .i64 0]) ?_ 0 _ rfl; (with_reducible repeat (first | refine blk_drewN ?_ _ | refine blk_drew ?_ | refine blk_alloc ?_ _)); exact BK422.out⟩
                              have n2_ : Aside0 (Below w.heap.size w ((((w46.setCell ⟨gb422, 0, none⟩ (.int .i64 t417)).setCell ⟨gb422, 1, none⟩ (.int .i64 t418)).setCell ⟨gb422, 2, none⟩ (.int .i64 t419)).setCell ⟨gb422, 3, none⟩ (.int .i64 t420))) := ⟨by repeat (first | (with_reducible first | exact HB.out | apply below_alloc | apply pw_below_drewN | apply below_drew1 | refine below_set ?_ GE415.out | refine below_set ?_ GE422.out) | exact HB.out)⟩
                              (try clear BK415)
                              (try clear BK422)
                              (try clear HB)
                              generalize ((((w46.setCell ⟨gb422, 0, none⟩ (.int .i64 t417)).setCell ⟨gb422, 1, none⟩ (.int .i64 t418)).setCell ⟨gb422, 2, none⟩ (.int .i64 t419)).setCell ⟨gb422, 3, none⟩ (.int .i64 t420)) = w49 at n0_ n1_ n2_ ⊢
                              have BK415 := n0_
                              have BK422 := n1_
                              have HB := n2_
                              clear n0_ n1_ n2_
                              have n0_ := Aside0.mk (blk_drew BK415.out)
                              have n1_ := Aside0.mk (blk_drew BK422.out)
                              have n2_ := Aside0.mk (below_drew1 HB.out)
                              clear BK415
                              clear BK422
                              clear HB
                              have BK415 := n0_
                              have BK422 := n1_
                              have HB := n2_
                              clear n0_ n1_ n2_
                              refine start_ (n := 12) (S := fun w' => w'.cell? ⟨gb422, 0, none⟩ = some (.int .i64 t417) ∧ w'.cell? ⟨gb422, 1, none⟩ = some (.int .i64 t418) ∧ w'.cell? ⟨gb422, 2, none⟩ = some (.int .i64 t419) ∧ w'.cell? ⟨gb422, 3, none⟩ = some (.int .i64 t420)) (ds := []) #[false, false, false, false, false, false, false, false, false, false, false, false] (by kernel_rfl) rfl rfl ⟨(blk_cell BK422.out 0).trans rfl, (blk_cell BK422.out 1).trans rfl, (blk_cell BK422.out 2).trans rfl, (blk_cell BK422.out 3).trans rfl⟩ (fun hHeld => ?_); refine with_tabW soundservicelaw05_GainRetargets.tab14 soundservicelaw05_GainRetargets.bits14 (fun HT_ HW_ => ?_)
                              generalize w49.drew = w50 at BK415 BK422 HB hHeld ⊢
                              refine pure_ (i := 1) (N := some 44) (v := ?_) (a' := ?_) #[false, true, false, false, false, false, false, false, false, false, false, false] rfl rfl (any_of HT_.out (by kernel_rfl)) (fun _ _ _ h => h) (Or.inl ⟨by rfl, ?_⟩) ?_ ?_
                              rotate_left
                              · intro w'
                                go_simp
                                with_reducible rfl
                              rotate_left
                              · simp only [Act.put, List.setIfInBounds_toArray, List.set_cons_zero, List.set_cons_succ, i64_w, i32_w]
                                rfl
                              refine pure_ (i := 2) (N := some 45) (v := ?_) (a' := ?_) #[false, true, true, false, false, false, false, false, false, false, false, false] rfl rfl (any_of HT_.out (by kernel_rfl)) (fun _ _ _ h => h) (Or.inl ⟨by rfl, ?_⟩) ?_ ?_
                              rotate_left
                              · intro w'
                                go_simp
                                with_reducible rfl
                              rotate_left
                              · simp only [Act.put, List.setIfInBounds_toArray, List.set_cons_zero, List.set_cons_succ, i64_w, i32_w]
                                rfl
                              refine take_ (i := 0) (N := some 43) (v := ?_) (a' := ?_) #[true, true, true, false, false, false, false, false, false, false, false, false] rfl rfl (take_ofW HT_.out HW_.out (by kernel_rfl)) (fun _ _ _ h => h) (Or.inl ⟨by rfl, ?_⟩) hHeld ?_ ?_
                              rotate_left
                              · rintro w' ⟨s0, s1, s2, s3⟩
                                go_simp
                                with_reducible rfl
                              rotate_left
                              · simp only [Act.put, List.setIfInBounds_toArray, List.set_cons_zero, List.set_cons_succ, i64_w, i32_w]
                                rfl
                              refine one_ (i := 3) (N := some 46) #[true, true, true, true, false, false, false, false, false, false, false, false] rfl rfl (one_of HT_.out (by kernel_rfl)) (by decide) (fun K hK => ?_)
                              refine Kd.R_makeK_step .u8 .u8 (Kd.int .i32) _ 21 (by rfl) (N := 46) rfl 25 _ _ rfl ji17 rfl rfl Try.underlying25 (.int .i32 0) 4 info21 rfl (by decide) (by omega) 0 (ok := fun _ => True) (okp := fun _ => True) rfl (fun _ hk => hk) trivial (of_decide_eq_true (by first | (with_reducible assumption) | assumption)) (Nat.le_trans (Nat.mul_le_mul_right _ (of_decide_eq_true (by first | (with_reducible assumption) | assumption) : ji17.toNat ≤ 70368744177664)) (by omega)) (Below.refl _ _) (Nat.le_refl _) ?_
                              intro v424 w51 ho52 hb hg_ hnew_
                              clear hg_ hnew_
                              (first | rw [← Ny423.out] at ho52 | (simp only [Int.reduceToNat] at ho52; rw [← Ny423.out] at ho52))
                              have n0_ := Aside0.mk (Kd.R_lower ho52 (below_size (by repeat (first | (with_reducible first | exact HB.out | apply below_alloc | apply pw_below_drewN | apply below_drew1 | refine below_set ?_ GE415.out | refine below_set ?_ GE422.out) | exact HB.out))))
                              have n1_ := Aside0.mk (blk_below (g := gb415) (o := .cells #[.int .i64 x416000_1, .int .i64 x416001_1, .int .i64 x416002_1, .int .i64 x416003_1] 35 (0, 0)) (by (with_reducible repeat (first | refine blk_drewN ?_ _ | refine blk_drew ?_ | refine blk_alloc ?_ _)); exact BK415.out) hb)
                              have n2_ := Aside0.mk (blk_below (g := gb422) (o := .cells #[.int .i64 t417, .int .i64 t418, .int .i64 t419, .int .i64 t420] 35 (0, 0)) (by (with_reducible repeat (first | refine blk_drewN ?_ _ | refine blk_drew ?_ | refine blk_alloc ?_ _)); exact BK422.out) hb)
                              have n3_ := Aside0.mk (below_step (by repeat (first | (with_reducible first | exact HB.out | apply below_alloc | apply pw_below_drewN | apply below_drew1 | refine below_set ?_ GE415.out | refine below_set ?_ GE422.out) | exact HB.out)) hb)
                              clear BK415
                              clear BK422
                              clear HB
                              have HO425 := n0_
                              have BK415 := n1_
                              have BK422 := n2_
                              have HB := n3_
                              clear n0_ n1_ n2_ n3_
                              clear hb ho52
                              obtain ⟨Ao53, co53, eo53⟩ := Kd.R_slice HO425.out
                              (first | subst eo53 | (injection eo53 with f1_ f2_ f3_; have f4_ := f1_.symm; have f5_ := f3_.symm; clear f1_ f2_ f3_; subst f4_; subst f5_))
                              refine hK.out _ _ ⟨(blk_cell BK422.out 0).trans rfl, (blk_cell BK422.out 1).trans rfl, (blk_cell BK422.out 2).trans rfl, (blk_cell BK422.out 3).trans rfl⟩ (fun hHeld => ?_)
                              clear hK K
                              refine norm_ (a' := ?_) ?_ ?_
                              rotate_left
                              · show Act.put _ (some 46) _ = _
                                simp only [Act.put, List.setIfInBounds_toArray, List.set_cons_zero, List.set_cons_succ, i64_w, i32_w]
                                rfl
                              refine pure_ (i := 4) (N := some 47) (v := ?_) (a' := ?_) #[true, true, true, true, true, false, false, false, false, false, false, false] rfl rfl (any_of HT_.out (by kernel_rfl)) (fun _ _ _ h => h) (Or.inl ⟨by rfl, ?_⟩) ?_ ?_
                              rotate_left
                              · intro w'
                                go_simp
                                with_reducible rfl
                              rotate_left
                              · simp only [Act.put, List.setIfInBounds_toArray, List.set_cons_zero, List.set_cons_succ, i64_w, i32_w]
                                rfl
                              refine one_ (i := 5) (N := some 48) #[true, true, true, true, true, true, false, false, false, false, false, false] rfl rfl (one_of HT_.out (by kernel_rfl)) (by decide) (fun K hK => ?_)
                              refine goes_ Try.func31 (by kernel_rfl) rfl #[.agg #[.int .i64 t417, .int .i64 t418, .int .i64 t419, .int .i64 t420], .agg #[.int .i64 1, .slice Ao53 y423.length co53]] (by rfl) rfl rfl (by (try simp only [List.map_toArray, List.map_cons, List.map_nil]); first | done | rfl | (simp only [List.length_drop, List.length_take]; rfl)) ?_
                              with_reducible refine (gain_Run.calls k1 t417 t418 t419 t420 1 _ _ y423 t426 t427 t430 t431 t432 t433 t434 _ ?side1 ?side2 A20.out).mono ?_
                              (case side1 => repeat (first | exact (Kd.R_reads' HO425.out).2.2 | (with_reducible refine Kd.C_alloc ?_ _) | (with_reducible refine Kd.C_drewN ?_ _) | (with_reducible refine Kd.C_drew ?_)))
                              (case side2 => exact (Kd.R_reads' HO425.out).2.1)
                              rintro e w54 ⟨v428, rfl, ho0, hb⟩
                              refine ⟨_, rfl, ?_⟩
                              have n0_ := Aside0.mk (Kd.R_elder' (by (with_reducible repeat (first | apply Kd.R_alloc | apply Kd.R_drewN | apply Kd.R_drew)); exact HO425.out) (Kd.R_base ho0) hb)
                              have n1_ := Aside0.mk (Kd.R_lower (Kd.R_new' ho0 (Kd.R_lt (by (with_reducible repeat (first | apply Kd.R_alloc | apply Kd.R_drewN | apply Kd.R_drew)); exact HO425.out))) (below_size (by repeat (first | (with_reducible first | exact HB.out | apply below_alloc | apply pw_below_drewN | apply below_drew1 | refine below_set ?_ GE415.out | refine below_set ?_ GE422.out) | exact HB.out))))
                              have n2_ := Aside0.mk (blk_below (g := gb415) (o := .cells #[.int .i64 x416000_1, .int .i64 x416001_1, .int .i64 x416002_1, .int .i64 x416003_1] 35 (0, 0)) (by (with_reducible repeat (first | refine blk_drewN ?_ _ | refine blk_drew ?_ | refine blk_alloc ?_ _)); exact BK415.out) hb)
                              have n3_ := Aside0.mk (blk_below (g := gb422) (o := .cells #[.int .i64 t417, .int .i64 t418, .int .i64 t419, .int .i64 t420] 35 (0, 0)) (by (with_reducible repeat (first | refine blk_drewN ?_ _ | refine blk_drew ?_ | refine blk_alloc ?_ _)); exact BK422.out) hb)
                              have n4_ := Aside0.mk (below_step (by repeat (first | (with_reducible first | exact HB.out | apply below_alloc | apply pw_below_drewN | apply below_drew1 | refine below_set ?_ GE415.out | refine below_set ?_ GE422.out) | exact HB.out)) hb)
                              clear HO425
                              clear BK415
                              clear BK422
                              clear HB
                              have HO425 := n0_
                              have HO429 := n1_
                              have BK415 := n2_
                              have BK422 := n3_
                              have HB := n4_
                              clear n0_ n1_ n2_ n3_ n4_
                              (try clear hb)
                              (try clear hb2)
                              (try clear hk)
                              (try clear hi)
                              (try clear ho0)
                              refine hK.out _ _ ⟨(blk_cell BK422.out 0).trans rfl, (blk_cell BK422.out 1).trans rfl, (blk_cell BK422.out 2).trans rfl, (blk_cell BK422.out 3).trans rfl⟩ (fun hHeld => ?_)
                              clear hK K
                              refine norm_ (a' := ?_) ?_ ?_
                              rotate_left
                              · show Act.put _ (some 48) _ = _
                                simp only [Act.put, List.setIfInBounds_toArray, List.set_cons_zero, List.set_cons_succ, i64_w, i32_w]
                                rfl
                              refine pure_ (i := 6) (N := some 42) (v := ?_) (a' := ?_) #[true, true, true, true, true, true, true, false, false, false, false, false] rfl rfl (any_of HT_.out (by kernel_rfl)) (fun _ _ _ h => h) (Or.inl ⟨by rfl, ?_⟩) ?_ ?_
                              rotate_left
                              · intro w'
                                go_simp
                                with_reducible rfl
                              rotate_left
                              · simp only [Act.put, List.setIfInBounds_toArray, List.set_cons_zero, List.set_cons_succ, i64_w, i32_w]
                                rfl
                              refine pure_ (i := 7) (N := some 49) (v := ?_) (a' := ?_) #[true, true, true, true, true, true, true, true, false, false, false, false] rfl rfl (any_of HT_.out (by kernel_rfl)) (fun _ _ _ h => h) (Or.inl ⟨by rfl, ?_⟩) ?_ ?_
                              rotate_left
                              · intro w'
                                go_simp
                                with_reducible rfl
                              rotate_left
                              · simp only [Act.put, List.setIfInBounds_toArray, List.set_cons_zero, List.set_cons_succ, i64_w, i32_w]
                                rfl
                              refine pure_ (i := 8) (N := some 50) (v := ?_) (a' := ?_) #[true, true, true, true, true, true, true, true, true, false, false, false] rfl rfl (any_of HT_.out (by kernel_rfl)) (fun _ _ _ h => h) (Or.inl ⟨by rfl, ?_⟩) ?_ ?_
                              rotate_left
                              · intro w'
                                go_simp
                                with_reducible rfl
                              rotate_left
                              · simp only [Act.put, List.setIfInBounds_toArray, List.set_cons_zero, List.set_cons_succ, i64_w, i32_w]
                                rfl
                              refine pure_ (i := 9) (N := some 51) (v := ?_) (a' := ?_) #[true, true, true, true, true, true, true, true, true, true, false, false] rfl rfl (any_of HT_.out (by kernel_rfl)) (fun _ _ _ h => h) (Or.inl ⟨by rfl, ?_⟩) ?_ ?_
                              rotate_left
                              · intro w'
                                go_simp
                                with_reducible rfl
                              rotate_left
                              · simp only [Act.put, List.setIfInBounds_toArray, List.set_cons_zero, List.set_cons_succ, i64_w, i32_w]
                                rfl
                              refine one_ (i := 10) (N := none) #[true, true, true, true, true, true, true, true, true, true, true, false] rfl rfl (one_of HT_.out (by kernel_rfl)) (by decide) (fun K hK => ?_)
                              have hs55 : w54.cell? ⟨gb415, 0, none⟩ = some (.int .i64 x416000_1) := (blk_cell BK415.out 0).trans rfl
                              have hfs55 := blk_frozen BK415.out 0
                              have hns55_1 := NB422_415.out
                              have hms55_1 := NB415_422.out
                              have hs56 : w54.cell? ⟨gb415, 1, none⟩ = some (.int .i64 x416001_1) := (blk_cell BK415.out 1).trans rfl
                              have hfs56 := blk_frozen BK415.out 1
                              have hns56_1 := NB422_415.out
                              have hms56_1 := NB415_422.out
                              have hs57 : w54.cell? ⟨gb415, 2, none⟩ = some (.int .i64 x416002_1) := (blk_cell BK415.out 2).trans rfl
                              have hfs57 := blk_frozen BK415.out 2
                              have hns57_1 := NB422_415.out
                              have hms57_1 := NB415_422.out
                              have hs58 : w54.cell? ⟨gb415, 3, none⟩ = some (.int .i64 x416003_1) := (blk_cell BK415.out 3).trans rfl
                              have hfs58 := blk_frozen BK415.out 3
                              have hns58_1 := NB422_415.out
                              have hms58_1 := NB415_422.out
                              refine skip_ (w1 := ?_) (by rfl) rfl ?_ ?_
                              rotate_left
                              · go_simp
                                rfl
                              refine hK.out _ _ ⟨((cell_far (p := ⟨gb415, _, none⟩) NB422_415.out _).trans (((cell_far (p := ⟨gb415, _, none⟩) NB422_415.out _).trans (((cell_far (p := ⟨gb415, _, none⟩) NB422_415.out _).trans (((cell_far (p := ⟨gb415, _, none⟩) NB422_415.out _).trans (hHeld.1)))))))), ((cell_far (p := ⟨gb415, _, none⟩) NB422_415.out _).trans (((cell_far (p := ⟨gb415, _, none⟩) NB422_415.out _).trans (((cell_far (p := ⟨gb415, _, none⟩) NB422_415.out _).trans (((cell_far (p := ⟨gb415, _, none⟩) NB422_415.out _).trans (hHeld.2.1)))))))), ((cell_far (p := ⟨gb415, _, none⟩) NB422_415.out _).trans (((cell_far (p := ⟨gb415, _, none⟩) NB422_415.out _).trans (((cell_far (p := ⟨gb415, _, none⟩) NB422_415.out _).trans (((cell_far (p := ⟨gb415, _, none⟩) NB422_415.out _).trans (hHeld.2.2.1)))))))), ((cell_far (p := ⟨gb415, _, none⟩) NB422_415.out _).trans (((cell_far (p := ⟨gb415, _, none⟩) NB422_415.out _).trans (((cell_far (p := ⟨gb415, _, none⟩) NB422_415.out _).trans (((cell_far (p := ⟨gb415, _, none⟩) NB422_415.out _).trans (hHeld.2.2.2))))))))⟩ (fun hHeld => ?_)
                              clear hK K
                              refine pure_ (i := 11) (N := some 11) (v := ?_) (a' := ?_) #[true, true, true, true, true, true, true, true, true, true, true, true] rfl rfl (any_of HT_.out (by kernel_rfl)) (fun _ _ _ h => h) (Or.inl ⟨by rfl, ?_⟩) ?_ ?_
                              rotate_left
                              · intro w'
                                go_simp
                                with_reducible rfl
                              rotate_left
                              · simp only [Act.put, List.setIfInBounds_toArray, List.set_cons_zero, List.set_cons_succ, i64_w, i32_w]
                                rfl
                              refine done_ (done_of HT_.out (by kernel_rfl)) ?_
                              have hcz59_0 : w54.cell? ⟨gb415, 0, none⟩ = some (.int .i64 x416000_1) := (blk_cell BK415.out 0).trans rfl
                              have hcz59_1 : w54.cell? ⟨gb415, 1, none⟩ = some (.int .i64 x416001_1) := (blk_cell BK415.out 1).trans rfl
                              have hcz59_2 : w54.cell? ⟨gb415, 2, none⟩ = some (.int .i64 x416002_1) := (blk_cell BK415.out 2).trans rfl
                              have hcz59_3 : w54.cell? ⟨gb415, 3, none⟩ = some (.int .i64 x416003_1) := (blk_cell BK415.out 3).trans rfl
                              have hfz59_0 := blk_frozen BK415.out 0
                              have hfz59_1 := blk_frozen BK415.out 1
                              have hfz59_2 := blk_frozen BK415.out 2
                              have hfz59_3 := blk_frozen BK415.out 3
                              try go_wp2_with (first | ((with_reducible refine gate_callee (f := 22) rfl ?_); refine goesL_ (some 53) rfl rfl Try.func22 (by kernel_rfl) rfl #[.agg #[.int .i64 t430, .int .i64 t431, .int .i64 t432, .int .i64 t433], .int .i64 0] rfl (by (try simp only [List.map_toArray, List.map_cons, List.map_nil]); first | done | rfl | (simp only [List.length_drop, List.length_take]; rfl)) ?_; (with_reducible refine (gain_At.calls t430 t431 t432 t433 0 t435 _ A21.out).mono ?_); rintro e w60 ⟨rfl, hb⟩; refine ⟨_, rfl, ?_⟩; have n0_ := Aside0.mk (Kd.R_below (by (with_reducible repeat (first | apply Kd.R_alloc | apply Kd.R_drewN | apply Kd.R_drew)); exact (Kd.R_mono (Kd.R_far (p := ⟨gb415, 3, none⟩) (Kd.R_far (p := ⟨gb415, 2, none⟩) (Kd.R_far (p := ⟨gb415, 1, none⟩) (Kd.R_far (p := ⟨gb415, 0, none⟩) (Kd.R_types HO425.out BK415.out (by decide)) (fun _ hk => hk.2) (.int .i64 t430)) (fun _ hk => hk.2) (.int .i64 t431)) (fun _ hk => hk.2) (.int .i64 t432)) (fun _ hk => hk.2) (.int .i64 t433)) (fun _ h_ => h_.1))) hb); have n1_ := Aside0.mk (Kd.R_below (by (with_reducible repeat (first | apply Kd.R_alloc | apply Kd.R_drewN | apply Kd.R_drew)); exact (Kd.R_mono (Kd.R_far (p := ⟨gb415, 3, none⟩) (Kd.R_far (p := ⟨gb415, 2, none⟩) (Kd.R_far (p := ⟨gb415, 1, none⟩) (Kd.R_far (p := ⟨gb415, 0, none⟩) (Kd.R_types HO429.out BK415.out (by decide)) (fun _ hk => hk.2) (.int .i64 t430)) (fun _ hk => hk.2) (.int .i64 t431)) (fun _ hk => hk.2) (.int .i64 t432)) (fun _ hk => hk.2) (.int .i64 t433)) (fun _ h_ => h_.1))) hb); have n2_ := Aside0.mk (blk_below (g := gb415) (o := .cells #[.int .i64 t430, .int .i64 t431, .int .i64 t432, .int .i64 t433] 35 (0, 0)) (by (with_reducible repeat (first | refine blk_drewN ?_ _ | refine blk_drew ?_ | refine blk_alloc ?_ _)); refine blk_put (cs := #[.int .i64 t430, .int .i64 t431, .int .i64 t432, .int .i64 x416003_1]) ?_ 3 _ rfl; (with_reducible repeat (first | refine blk_drewN ?_ _ | refine blk_drew ?_ | refine blk_alloc ?_ _)); refine blk_put (cs := #[.int .i64 t430, .int .i64 t431, .int .i64 x416002_1, .int .i64 x416003_1]) ?_ 2 _ rfl; (with_reducible repeat (first | refine blk_drewN ?_ _ | refine blk_drew ?_ | refine blk_alloc ?_ _)); refine blk_put (cs := #[.int .i64 t430, .int .i64 x416001_1, .int .i64 x416002_1, .int .i64 x416003_1]) ?_ 1 _ rfl; (with_reducible repeat (first | refine blk_drewN ?_ _ | refine blk_drew ?_ | refine blk_alloc ?_ _)); refine blk_put (cs := #[.int .i64 x416000_1, .int .i64 x416001_1, .int .i64 x416002_1, .int .i64 x416003_1]) ?_ 0 _ rfl; (with_reducible repeat (first | refine blk_drewN ?_ _ | refine blk_drew ?_ | refine blk_alloc ?_ _)); exact BK415.out) hb); have n3_ := Aside0.mk (blk_below (g := gb422) (o := .cells #[.int .i64 t417, .int .i64 t418, .int .i64 t419, .int .i64 t420] 35 (0, 0)) (by (with_reducible repeat (first | refine blk_drewN ?_ _ | refine blk_drew ?_ | refine blk_alloc ?_ _)); refine blk_far ?_ NB422_415.out _; (with_reducible repeat (first | refine blk_drewN ?_ _ | refine blk_drew ?_ | refine blk_alloc ?_ _)); refine blk_far ?_ NB422_415.out _; (with_reducible repeat (first | refine blk_drewN ?_ _ | refine blk_drew ?_ | refine blk_alloc ?_ _)); refine blk_far ?_ NB422_415.out _; (with_reducible repeat (first | refine blk_drewN ?_ _ | refine blk_drew ?_ | refine blk_alloc ?_ _)); refine blk_far ?_ NB422_415.out _; (with_reducible repeat (first | refine blk_drewN ?_ _ | refine blk_drew ?_ | refine blk_alloc ?_ _)); exact BK422.out) hb); have n4_ := Aside0.mk (below_step (by repeat (first | (with_reducible first | exact HB.out | apply below_alloc | apply pw_below_drewN | apply below_drew1 | refine below_set ?_ GE415.out | refine below_set ?_ GE422.out) | exact HB.out)) hb); clear HO425; clear HO429; clear BK415; clear BK422; clear HB; have HO425 := n0_; have HO429 := n1_; have BK415 := n2_; have BK422 := n3_; have HB := n4_; clear n0_ n1_ n2_ n3_ n4_; (try clear hb); (try clear hb2); (try clear hk); (try clear hi)))
                              go_roundg k1
                              case measure => have := HK1.out; omega
                              case rel => exact ⟨(ji13), (ji14), (wrap64 (x21_1 + 1)), (t430), (t431), (t432), (t433), (by first | rfl | (simp; done) | (simp only [← hji13] <;> (first | rfl | simp)) | (simp [*]; done)), (by first | rfl | (simp; done) | (simp only [← hji14] <;> (first | rfl | simp)) | (simp [*]; done)), (by first | rfl | (simp; done) | (simp [*]; done)), H', ⟨by have := HK1.out; omega⟩, ⟨by (with_reducible repeat (first | refine blk_drewN ?_ _ | refine blk_drew ?_ | refine blk_alloc ?_ _)); exact BK415.out⟩, ⟨by repeat (first | (with_reducible first | exact HB.out | apply below_alloc | apply pw_below_drewN | apply below_drew1 | refine below_set ?_ GE415.out | refine below_set ?_ GE422.out) | exact HB.out)⟩⟩
                      · rw [if_neg c22] at H
                        have c22b0 : (t434 == 0) = false := beq_eq_false_iff_ne.mpr c22
                        have c22b1 : (t434 != 0) = true := bne_iff_ne.mpr c22
                        exact absurd (H.trans (congrArg some HR_.out)) (by simp)
                    · rw [if_neg c19] at H
                      exact absurd H (by simp)
                  · rw [if_neg c18] at H
                    exact absurd H (by simp)
                · rw [if_neg c16] at H
                  have c16b0 : (t421 == 0) = false := beq_eq_false_iff_ne.mpr c16
                  have c16b1 : (t421 != 0) = true := bne_iff_ne.mpr c16
                  exact absurd (H.trans (congrArg some HR_.out)) (by simp)
              · rw [if_neg c12] at H
                exact absurd H (by simp)
            · rw [if_neg c11] at H
              exact absurd H (by simp)
          · rw [if_neg c10] at H
            have c10b0 : decide (x21_1 < (l0.length : Int)) = false := decide_eq_false c10
            clear c10
            obtain rfl := Option.some.inj H
            go_wp2
            go_ret
            exact ⟨by first | rfl | (simp [errW_none, errW_some] <;> rfl) | (simp [*, errW_none, errW_some] <;> rfl), by repeat (first | (with_reducible first | exact HB.out | apply below_alloc | apply pw_below_drewN | apply below_drew1 | refine below_set ?_ GE415.out) | exact HB.out)⟩
  · replace c4 := Bool.eq_false_iff.mpr c4
    subst c4
    have H1 : (some false) = some r := by rw [if_neg (show ¬ (false = true) by decide)] at H; exact H
    clear H
    have H := H1
    clear H1
    exact absurd (H.trans (congrArg some HR_.out)) (by simp)

/-- THE ONE PURE STATEMENT of soundservicelaw05_GainRetargets: yours. -/
def soundservicelaw05_GainRetargets.Pure : Prop := ∀ (l0 : List Int) (a1 : Int), l0.length ≤ maxLen → l0.length * 2 ≤ 140737488351232 → (∀ x ∈ l0, (Lit.int .u16 x).wf = true) → (Lit.int .u8 a1).wf = true → ∃ k, soundservicelaw05_GainRetargets.f k l0 a1 = some true
theorem soundservicelaw05_GainRetargets.walk (P : soundservicelaw05_GainRetargets.Pure) (a0 : Option Addr) (len0 cap0 : Nat) (z0 : List Int) (a1 : Int) (w : World) (w0 : (a0 = none ∧ len0 = 0 ∧ cap0 = 0 ∧ z0 = []) ∨ ∃ x, a0 = some x ∧ len0 ≤ cap0 ∧ cap0 ≤ maxLen ∧ z0.length = cap0 ∧ (∀ i, i < z0.length → w.cell? (x.add i) = some (.int .u16 (z0.getD i 0))) ∧ ∀ n ∈ z0, (Lit.int .u16 n).wf = true) (y0 : len0 * 2 ≤ 140737488351232) (w1 : (Lit.int .u8 a1).wf = true) :
    Calls Try.prog 11 #[.slice a0 len0 cap0, .int .u8 a1] w fun e w' => e = .returned (.bool true) ∧ Below w.heap.size w w' := by
  obtain ⟨l0, rfl, hr0, hm0, hw0, hc0⟩ := ReadsInt.ofRowC w0
  obtain ⟨k, h⟩ := P l0 a1 hm0 y0 hw0 w1
  refine (soundservicelaw05_GainRetargets.calls k _ _ l0 a1 true w (Kd.C_of_reads (d := (0 : Int)) (h1 := fun _ => rfl) hr0) hc0 rfl h).mono ?_
  rintro e w' ⟨rfl, hd⟩
  exact ⟨rfl, hd⟩

end Go.Proofs.Ytegodmjmoagajaa.Q
