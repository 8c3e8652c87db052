-- Written by a program of this session, out of the seat's translation; checked by the kernel alone.
import Derived.Test.YtempbcblakkjmaaQ0
import Derived.Test.YtempbcblakkjmaaQ2
import Derived.Test.YtempbcblakkjmaaQ3
import Derived.Test.YtempbcblakkjmaaQ4
namespace Go.Proofs.Ytempbcblakkjmaa.Q
open Go.RowKit Go.Proofs.YtempbcblakkjmaaW.PrintWords Go.Proofs.YtempbcblakkjmaaW.PrintLast Go.Proofs.YtempbcblakkjmaaW.PrintMore
attribute [local go_sem] max2_int min2_int max_two min_two max_three min_three max_four min_four   -- for this text's walks alone
set_option linter.unusedVariables false
set_option linter.unusedSimpArgs false

/-! ### soundserviceref04_SameData: function 27 -/
def soundserviceref04_SameData.l0 : Nat → List Int → List Int → Int → Int → Option (Bool)
  | 0, _, _, _, _ => none
  | k + 1, x0, x1, x12, x13 => if x13 < x12 then (if 0 ≤ x13 then (if x13 < (x0.length : Int) then (if x13 < (x1.length : Int) then (if (rd x0 x13) = (rd x1 x13) then (soundserviceref04_SameData.l0 k x0 x1 x12 (wrap64 (x13 + 1))) else (some false)) else (none)) else (none)) else (none)) else (some true)
def soundserviceref04_SameData.f (k : Nat) (l0 : List Int) (l1 : List Int) : Option (Bool) := if (l0.length : Int) = (l1.length : Int) then (soundserviceref04_SameData.l0 k l0 l1 (l0.length : Int) 0) else (some false)
theorem soundserviceref04_SameData.mono_l : ∀ k, (∀ y0 y1 y2 y3, LeO (soundserviceref04_SameData.l0 k y0 y1 y2 y3) (soundserviceref04_SameData.l0 (k + 1) y0 y1 y2 y3))
  | 0 => fun _ _ _ _ r h => by simp [soundserviceref04_SameData.l0] at h
  | k + 1 => by
    have ih0 := soundserviceref04_SameData.mono_l k
    · intro y0 y1 y2 y3
      unfold soundserviceref04_SameData.l0
      repeat' first
      | (with_reducible exact ih0 _ _ _ _)
      | (with_reducible exact LeO.refl _)
      | (with_reducible exact LeO.none _)
      | (with_reducible refine LeO.ite ?_ ?_)
      | (with_reducible refine LeO.bind ?_ (fun _ => ?_))
      | exact ih0 _ _ _ _
      | exact LeO.none _
      | refine LeO.ite ?_ ?_
      | refine LeO.bind ?_ (fun _ => ?_)
theorem soundserviceref04_SameData.mono : ∀ a0 a1 k, LeO (soundserviceref04_SameData.f k a0 a1) (soundserviceref04_SameData.f (k + 1) a0 a1) := by
  intro a0 a1 k
  have ih0 := soundserviceref04_SameData.mono_l k
  unfold soundserviceref04_SameData.f
  repeat' first
      | (with_reducible exact ih0 _ _ _ _)
      | (with_reducible exact LeO.refl _)
      | (with_reducible exact LeO.none _)
      | (with_reducible refine LeO.ite ?_ ?_)
      | (with_reducible refine LeO.bind ?_ (fun _ => ?_))
      | exact ih0 _ _ _ _
      | exact LeO.none _
      | refine LeO.ite ?_ ?_
      | refine LeO.bind ?_ (fun _ => ?_)
set_option maxHeartbeats 8000000 in
set_option maxRecDepth 100000 in
theorem soundserviceref04_SameData.calls (k : Nat) (A0 : Option Addr) (c0 : Nat) (l0 : List Int) (A1 : Option Addr) (c1 : Nat) (l1 : List Int) (r : Bool) (w : World) (hr0 : Kd.C (Kd.int .i32) w A0 l0.length l0) (hc0 : l0.length ≤ c0) (hr1 : Kd.C (Kd.int .i32) w A1 l1.length l1) (hc1 : l1.length ≤ c1) (h : soundserviceref04_SameData.f k l0 l1 = some r) :
    Calls Try.prog 27 #[.slice A0 l0.length c0, .slice A1 l1.length c1] w fun e w' => e = .returned (.bool r) ∧ Drawn0 w w' := by
  have HR0 := Aside0.mk hr0
  have HC0 := Aside0.mk hc0
  clear hr0 hc0
  have HR1 := Aside0.mk hr1
  have HC1 := Aside0.mk hc1
  clear hr1 hc1
  have H : (if (l0.length : Int) = (l1.length : Int) then (soundserviceref04_SameData.l0 k l0 l1 (l0.length : Int) 0) else (some false)) = some r := h
  clear h
  by_cases c3 : (l0.length : Int) = (l1.length : Int)
  · rw [if_pos c3] at H
    have c3b0 : ((l0.length : Int) == (l1.length : Int)) = true := beq_iff_eq.mpr c3
    have c3b1 : ((l0.length : Int) != (l1.length : Int)) = false := bne_eq_false_iff_eq.mpr c3
    have c3b2 : (l0.length == l1.length) = true := by first | simpa using c3 | (simp at c3 ⊢; omega)
    clear c3
    have H' := Aside0.mk H
    clear H
    go_enter Try.func27, Try.ntmps27
    go_wp2
    repeat (go_quiet (fail); try go_wp2)
    go_loopg [13] k (fun kq v13 w' => ∃ (x13_1 : Int), v13 = .int .i64 x13_1 ∧ Aside0 (soundserviceref04_SameData.l0 kq l0 l1 (l0.length : Int) x13_1 = some r) ∧ Aside0 (kq ≤ k) ∧ Drawn0 w w')
    case atStart => exact ⟨(0), (by first | rfl | (simp; done) | (simp [*]; done)), H', ⟨Nat.le_refl _⟩, by repeat (first | exact Drawn0.refl _ | apply Drawn0.step)⟩
    case round =>
      clear H'
      try clear c1
      try clear c2
      try clear p2
      try clear c3
      try clear c3b0
      try clear c3b1
      try clear c3b2
      obtain ⟨x13_1, rfl, HA, HK1, ⟨m1, rfl⟩⟩ := hrel
      cases gk with
      | zero => exact absurd HA.out (by simp [soundserviceref04_SameData.l0])
      | succ k1 =>
        have H := HA.out
        clear HA
        simp only [soundserviceref04_SameData.l0] at H
        by_cases c4 : x13_1 < (l0.length : Int)
        · rw [if_pos c4] at H
          have c4b0 : decide (x13_1 < (l0.length : Int)) = true := decide_eq_true c4
          clear c4
          by_cases c5 : 0 ≤ x13_1
          · rw [if_pos c5] at H
            have c5b0 : decide (0 ≤ x13_1) = true := decide_eq_true c5
            clear c5
            by_cases c6 : x13_1 < (l0.length : Int)
            · rw [if_pos c6] at H
              have c6b0 : decide (x13_1 < (l0.length : Int)) = true := decide_eq_true c6
              clear c6
              by_cases c7 : x13_1 < (l1.length : Int)
              · rw [if_pos c7] at H
                have c7b0 : decide (x13_1 < (l1.length : Int)) = true := decide_eq_true c7
                clear c7
                by_cases c8 : (rd l0 x13_1) = (rd l1 x13_1)
                · rw [if_pos c8] at H
                  have c8b0 : ((rd l0 x13_1) == (rd l1 x13_1)) = true := beq_iff_eq.mpr c8
                  have c8b1 : ((rd l0 x13_1) != (rd l1 x13_1)) = false := bne_eq_false_iff_eq.mpr c8
                  clear c8
                  have H' := Aside0.mk H
                  clear H
                  have p222 : 0 ≤ (x13_1 : Int) := of_decide_eq_true (by first | (with_reducible assumption) | assumption)
                  have q222 : x13_1 < (l0.length : Int) := of_decide_eq_true (by first | (with_reducible assumption) | assumption)
                  obtain ⟨ad222, e222, hx222_0⟩ := Kd.at_int HR0.out x13_1 p222 q222
                  cases e222
                  replace p222 := eq_true p222
                  replace q222 := eq_true q222
                  have p223 : 0 ≤ (x13_1 : Int) := of_decide_eq_true (by first | (with_reducible assumption) | assumption)
                  have q223 : x13_1 < (l1.length : Int) := of_decide_eq_true (by first | (with_reducible assumption) | assumption)
                  obtain ⟨ad223, e223, hx223_0⟩ := Kd.at_int HR1.out x13_1 p223 q223
                  cases e223
                  replace p223 := eq_true p223
                  replace q223 := eq_true q223
                  go_wp2
                  repeat (go_quiet (fail); try go_wp2)
                  go_roundg k1
                  case measure => have := HK1.out; omega
                  case rel => exact ⟨(wrap64 (x13_1 + 1)), (by first | rfl | (simp; done) | (simp [*]; done)), H', ⟨by have := HK1.out; omega⟩, by repeat (first | exact Drawn0.refl _ | apply Drawn0.step)⟩
                · rw [if_neg c8] at H
                  have c8b0 : ((rd l0 x13_1) == (rd l1 x13_1)) = false := beq_eq_false_iff_ne.mpr c8
                  have c8b1 : ((rd l0 x13_1) != (rd l1 x13_1)) = true := bne_iff_ne.mpr c8
                  obtain rfl := Option.some.inj H
                  have p222 : 0 ≤ (x13_1 : Int) := of_decide_eq_true (by first | (with_reducible assumption) | assumption)
                  have q222 : x13_1 < (l0.length : Int) := of_decide_eq_true (by first | (with_reducible assumption) | assumption)
                  obtain ⟨ad222, e222, hx222_0⟩ := Kd.at_int HR0.out x13_1 p222 q222
                  cases e222
                  replace p222 := eq_true p222
                  replace q222 := eq_true q222
                  have p223 : 0 ≤ (x13_1 : Int) := of_decide_eq_true (by first | (with_reducible assumption) | assumption)
                  have q223 : x13_1 < (l1.length : Int) := of_decide_eq_true (by first | (with_reducible assumption) | assumption)
                  obtain ⟨ad223, e223, hx223_0⟩ := Kd.at_int HR1.out x13_1 p223 q223
                  cases e223
                  replace p223 := eq_true p223
                  replace q223 := eq_true q223
                  go_wp2
                  repeat (go_quiet (fail); try go_wp2)
                  go_ret
                  exact ⟨by first | rfl | (simp; done) | (simp [*]; done), by repeat (first | exact Drawn0.refl _ | apply Drawn0.step)⟩
              · rw [if_neg c7] at H
                exact absurd H (by simp)
            · rw [if_neg c6] at H
              exact absurd H (by simp)
          · rw [if_neg c5] at H
            exact absurd H (by simp)
        · rw [if_neg c4] at H
          have c4b0 : decide (x13_1 < (l0.length : Int)) = false := decide_eq_false c4
          clear c4
          obtain rfl := Option.some.inj H
          go_wp2
          repeat (go_quiet (fail); try go_wp2)
          go_ret
          exact ⟨by first | rfl | (simp; done) | (simp [*]; done), by repeat (first | exact Drawn0.refl _ | apply Drawn0.step)⟩
  · rw [if_neg c3] at H
    have c3b0 : ((l0.length : Int) == (l1.length : Int)) = false := beq_eq_false_iff_ne.mpr c3
    have c3b1 : ((l0.length : Int) != (l1.length : Int)) = true := bne_iff_ne.mpr c3
    have c3b2 : (l0.length == l1.length) = false := by first | simpa using c3 | (simp at c3 ⊢; omega)
    obtain rfl := Option.some.inj H
    go_enter Try.func27, Try.ntmps27
    go_wp2
    repeat (go_quiet (fail); try go_wp2)
    go_ret
    exact ⟨by first | rfl | (simp; done) | (simp [*]; done), by repeat (first | exact Drawn0.refl _ | apply Drawn0.step)⟩

/-! ### soundserviceref04_Same: function 14 -/
def soundserviceref04_Same.f (k : Nat) (a0_0 : Int) (l0_1 : List Int) (a1_0 : Int) (l1_1 : List Int) : Option (Bool) := if a0_0 = a1_0 then ((soundserviceref04_SameData.f k l0_1 l1_1).bind fun t226 => (some t226)) else (some false)
theorem soundserviceref04_Same.mono : ∀ a0 a1 a2 a3 k, LeO (soundserviceref04_Same.f k a0 a1 a2 a3) (soundserviceref04_Same.f (k + 1) a0 a1 a2 a3) := by
  intro a0 a1 a2 a3 k
  unfold soundserviceref04_Same.f
  repeat' first
      | (with_reducible exact soundserviceref04_SameData.mono _ _ _)
      | (with_reducible exact LeO.refl _)
      | (with_reducible exact LeO.none _)
      | (with_reducible refine LeO.ite ?_ ?_)
      | (with_reducible refine LeO.bind ?_ (fun _ => ?_))
      | exact soundserviceref04_SameData.mono _ _ _
      | exact LeO.none _
      | refine LeO.ite ?_ ?_
      | refine LeO.bind ?_ (fun _ => ?_)
set_option maxHeartbeats 8000000 in
set_option maxRecDepth 100000 in
theorem soundserviceref04_Same.calls (k : Nat) (a0_0 : Int) (A0_1 : Option Addr) (c0_1 : Nat) (l0_1 : List Int) (a1_0 : Int) (A1_1 : Option Addr) (c1_1 : Nat) (l1_1 : List Int) (r : Bool) (w : World) (hr0_1 : Kd.C (Kd.int .i32) w A0_1 l0_1.length l0_1) (hc0_1 : l0_1.length ≤ c0_1) (hr1_1 : Kd.C (Kd.int .i32) w A1_1 l1_1.length l1_1) (hc1_1 : l1_1.length ≤ c1_1) (h : soundserviceref04_Same.f k a0_0 l0_1 a1_0 l1_1 = some r) :
    Calls Try.prog 14 #[.agg #[.int .i64 a0_0, .slice A0_1 l0_1.length c0_1], .agg #[.int .i64 a1_0, .slice A1_1 l1_1.length c1_1]] w fun e w' => e = .returned (.bool r) ∧ Below w.heap.size w w' := by
  have hu36 := Try.underlying36
  have HR0_1 := Aside0.mk hr0_1
  have HC0_1 := Aside0.mk hc0_1
  clear hr0_1 hc0_1
  have HR1_1 := Aside0.mk hr1_1
  have HC1_1 := Aside0.mk hc1_1
  clear hr1_1 hc1_1
  have HB := Aside0.mk (Below.refl w.heap.size w)
  have H : (if a0_0 = a1_0 then ((soundserviceref04_SameData.f k l0_1 l1_1).bind fun t226 => (some t226)) else (some false)) = some r := h
  clear h
  by_cases c3 : a0_0 = a1_0
  · rw [if_pos c3] at H
    have c3b0 : (a0_0 == a1_0) = true := beq_iff_eq.mpr c3
    have c3b1 : (a0_0 != a1_0) = false := bne_eq_false_iff_eq.mpr c3
    clear c3
    replace H := Option.bind_eq_some_iff.mp H
    obtain ⟨t226, A40, H⟩ := H
    replace H : (some t226) = some r := H
    have A4 := Aside0.mk A40
    clear A40
    obtain rfl := Option.some.inj H
    go_enter Try.func14, Try.ntmps14
    go_wp2_with (first | ((with_reducible refine gate_dst (N := 2) rfl ?_); refine box_event ?hg (N := 2) ?hd (cs := #[.int .i64 a0_0, .slice A0_1 l0_1.length c0_1]) (t := 36) ?hr ?_; (case hd => rfl); (case hg => rfl); (case hr => first | (go_simp; done) | (go_simp; rfl)); intro gb224 hg w5 hbox hb; have n0_ := Aside0.mk (below_step (by repeat (first | (with_reducible first | exact HB.out | apply below_alloc | apply pw_below_drewN | apply below_drew1) | exact HB.out)) hb); have n1_ := Aside0.mk (hbox); have n2_ := Aside0.mk ((by rw [hg]; exact (below_size (by repeat (first | (with_reducible first | exact HB.out | apply below_alloc | apply pw_below_drewN | apply below_drew1) | exact HB.out))) : w.heap.size ≤ gb224)); have n3_ := Aside0.mk ((by rw [hg]; exact (below_size (by repeat (first | (with_reducible first | exact HB.out | apply below_alloc | apply pw_below_drewN | apply below_drew1) | exact HB.out))) : w.heap.size ≤ gb224)); clear HB; have HB := n0_; have BK224 := n1_; have GW224 := n2_; have GE224 := n3_; clear n0_ n1_ n2_ n3_; clear hb hbox hg) | ((with_reducible refine gate_dst (N := 3) rfl ?_); refine box_event ?hg (N := 3) ?hd (cs := #[.int .i64 a1_0, .slice A1_1 l1_1.length c1_1]) (t := 36) ?hr ?_; (case hd => rfl); (case hg => rfl); (case hr => first | (go_simp; done) | (go_simp; rfl)); intro gb225 hg w6 hbox hb; have n0_ := Aside0.mk (blk_below (g := gb224) (o := .cells #[.int .i64 a0_0, .slice A0_1 l0_1.length c0_1] 36 (0, 0)) (by (with_reducible repeat (first | refine blk_drewN ?_ _ | refine blk_drew ?_ | refine blk_alloc ?_ _)); exact BK224.out) hb); have n1_ := Aside0.mk (below_step (by repeat (first | (with_reducible first | exact HB.out | apply below_alloc | apply pw_below_drewN | apply below_drew1 | refine below_set ?_ GE224.out) | exact HB.out)) hb); have n2_ := Aside0.mk (hbox); have n3_ := Aside0.mk ((by rw [hg]; exact (below_size (by repeat (first | (with_reducible first | exact HB.out | apply below_alloc | apply pw_below_drewN | apply below_drew1 | refine below_set ?_ GE224.out) | exact HB.out))) : w.heap.size ≤ gb225)); have n4_ := Aside0.mk ((by rw [hg]; exact (below_size (by repeat (first | (with_reducible first | exact HB.out | apply below_alloc | apply pw_below_drewN | apply below_drew1 | refine below_set ?_ GE224.out) | exact HB.out))) : w.heap.size ≤ gb225)); have n5_ := Aside0.mk ((by rw [hg]; exact Nat.ne_of_lt (blk_lt (g := gb224) (o := .cells #[.int .i64 a0_0, .slice A0_1 l0_1.length c0_1] 36 (0, 0)) (by (with_reducible repeat (first | refine blk_drewN ?_ _ | refine blk_drew ?_ | refine blk_alloc ?_ _)); exact BK224.out)) : gb224 ≠ gb225)); have n6_ := Aside0.mk ((by rw [hg]; exact Nat.ne_of_gt (blk_lt (g := gb224) (o := .cells #[.int .i64 a0_0, .slice A0_1 l0_1.length c0_1] 36 (0, 0)) (by (with_reducible repeat (first | refine blk_drewN ?_ _ | refine blk_drew ?_ | refine blk_alloc ?_ _)); exact BK224.out)) : gb225 ≠ gb224)); clear BK224; clear HB; have BK224 := n0_; have HB := n1_; have BK225 := n2_; have GW225 := n3_; have GE225 := n4_; have NB224_225 := n5_; have NB225_224 := n6_; clear n0_ n1_ n2_ n3_ n4_ n5_ n6_; clear hb hbox hg; have hnb7 := NB224_225.out; have hnc7 := NB225_224.out; have hcz8_0 : w6.cell? ⟨gb224, 0, none⟩ = some (.int .i64 a0_0) := (blk_cell BK224.out 0).trans rfl; have hcz8_1 : w6.cell? ⟨gb224, 1, none⟩ = some (.slice A0_1 l0_1.length c0_1) := (blk_cell BK224.out 1).trans rfl; have hfz8_0 := blk_frozen BK224.out 0; have hfz8_1 := blk_frozen BK224.out 1; have hcz9_0 : w6.cell? ⟨gb225, 0, none⟩ = some (.int .i64 a1_0) := (blk_cell BK225.out 0).trans rfl; have hcz9_1 : w6.cell? ⟨gb225, 1, none⟩ = some (.slice A1_1 l1_1.length c1_1) := (blk_cell BK225.out 1).trans rfl; have hfz9_0 := blk_frozen BK225.out 0; have hfz9_1 := blk_frozen BK225.out 1) | (go_at_call 27; (with_reducible refine (soundserviceref04_SameData.calls k _ _ l0_1 _ _ l1_1 t226 _ ?side1 ?side2 ?side3 ?side4 A4.out).mono ?_); (case side1 => repeat (first | exact (Kd.C_below HR0_1.out HB.out) | (with_reducible refine Kd.C_alloc ?_ _) | (with_reducible refine Kd.C_drewN ?_ _) | (with_reducible refine Kd.C_drew ?_))); (case side2 => exact HC0_1.out); (case side3 => repeat (first | exact (Kd.C_below HR1_1.out HB.out) | (with_reducible refine Kd.C_alloc ?_ _) | (with_reducible refine Kd.C_drewN ?_ _) | (with_reducible refine Kd.C_drew ?_))); (case side4 => exact HC1_1.out); rintro e w' ⟨rfl, ⟨nd, rfl⟩⟩))
    go_ret
    exact ⟨by first | rfl | (simp [errW_none, errW_some] <;> rfl) | (simp [*, errW_none, errW_some] <;> rfl), by repeat (first | (with_reducible first | exact HB.out | apply below_alloc | apply pw_below_drewN | apply below_drew1 | refine below_set ?_ GE224.out | refine below_set ?_ GE225.out) | exact HB.out)⟩
  · rw [if_neg c3] at H
    have c3b0 : (a0_0 == a1_0) = false := beq_eq_false_iff_ne.mpr c3
    have c3b1 : (a0_0 != a1_0) = true := bne_iff_ne.mpr c3
    obtain rfl := Option.some.inj H
    go_enter Try.func14, Try.ntmps14
    go_wp2_with (first | ((with_reducible refine gate_dst (N := 2) rfl ?_); refine box_event ?hg (N := 2) ?hd (cs := #[.int .i64 a0_0, .slice A0_1 l0_1.length c0_1]) (t := 36) ?hr ?_; (case hd => rfl); (case hg => rfl); (case hr => first | (go_simp; done) | (go_simp; rfl)); intro gb224 hg w10 hbox hb; have n0_ := Aside0.mk (below_step (by repeat (first | (with_reducible first | exact HB.out | apply below_alloc | apply pw_below_drewN | apply below_drew1) | exact HB.out)) hb); have n1_ := Aside0.mk (hbox); have n2_ := Aside0.mk ((by rw [hg]; exact (below_size (by repeat (first | (with_reducible first | exact HB.out | apply below_alloc | apply pw_below_drewN | apply below_drew1) | exact HB.out))) : w.heap.size ≤ gb224)); have n3_ := Aside0.mk ((by rw [hg]; exact (below_size (by repeat (first | (with_reducible first | exact HB.out | apply below_alloc | apply pw_below_drewN | apply below_drew1) | exact HB.out))) : w.heap.size ≤ gb224)); clear HB; have HB := n0_; have BK224 := n1_; have GW224 := n2_; have GE224 := n3_; clear n0_ n1_ n2_ n3_; clear hb hbox hg) | ((with_reducible refine gate_dst (N := 3) rfl ?_); refine box_event ?hg (N := 3) ?hd (cs := #[.int .i64 a1_0, .slice A1_1 l1_1.length c1_1]) (t := 36) ?hr ?_; (case hd => rfl); (case hg => rfl); (case hr => first | (go_simp; done) | (go_simp; rfl)); intro gb225 hg w11 hbox hb; have n0_ := Aside0.mk (blk_below (g := gb224) (o := .cells #[.int .i64 a0_0, .slice A0_1 l0_1.length c0_1] 36 (0, 0)) (by (with_reducible repeat (first | refine blk_drewN ?_ _ | refine blk_drew ?_ | refine blk_alloc ?_ _)); exact BK224.out) hb); have n1_ := Aside0.mk (below_step (by repeat (first | (with_reducible first | exact HB.out | apply below_alloc | apply pw_below_drewN | apply below_drew1 | refine below_set ?_ GE224.out) | exact HB.out)) hb); have n2_ := Aside0.mk (hbox); have n3_ := Aside0.mk ((by rw [hg]; exact (below_size (by repeat (first | (with_reducible first | exact HB.out | apply below_alloc | apply pw_below_drewN | apply below_drew1 | refine below_set ?_ GE224.out) | exact HB.out))) : w.heap.size ≤ gb225)); have n4_ := Aside0.mk ((by rw [hg]; exact (below_size (by repeat (first | (with_reducible first | exact HB.out | apply below_alloc | apply pw_below_drewN | apply below_drew1 | refine below_set ?_ GE224.out) | exact HB.out))) : w.heap.size ≤ gb225)); have n5_ := Aside0.mk ((by rw [hg]; exact Nat.ne_of_lt (blk_lt (g := gb224) (o := .cells #[.int .i64 a0_0, .slice A0_1 l0_1.length c0_1] 36 (0, 0)) (by (with_reducible repeat (first | refine blk_drewN ?_ _ | refine blk_drew ?_ | refine blk_alloc ?_ _)); exact BK224.out)) : gb224 ≠ gb225)); have n6_ := Aside0.mk ((by rw [hg]; exact Nat.ne_of_gt (blk_lt (g := gb224) (o := .cells #[.int .i64 a0_0, .slice A0_1 l0_1.length c0_1] 36 (0, 0)) (by (with_reducible repeat (first | refine blk_drewN ?_ _ | refine blk_drew ?_ | refine blk_alloc ?_ _)); exact BK224.out)) : gb225 ≠ gb224)); clear BK224; clear HB; have BK224 := n0_; have HB := n1_; have BK225 := n2_; have GW225 := n3_; have GE225 := n4_; have NB224_225 := n5_; have NB225_224 := n6_; clear n0_ n1_ n2_ n3_ n4_ n5_ n6_; clear hb hbox hg; have hnb12 := NB224_225.out; have hnc12 := NB225_224.out; have hcz13_0 : w11.cell? ⟨gb224, 0, none⟩ = some (.int .i64 a0_0) := (blk_cell BK224.out 0).trans rfl; have hcz13_1 : w11.cell? ⟨gb224, 1, none⟩ = some (.slice A0_1 l0_1.length c0_1) := (blk_cell BK224.out 1).trans rfl; have hfz13_0 := blk_frozen BK224.out 0; have hfz13_1 := blk_frozen BK224.out 1; have hcz14_0 : w11.cell? ⟨gb225, 0, none⟩ = some (.int .i64 a1_0) := (blk_cell BK225.out 0).trans rfl; have hcz14_1 : w11.cell? ⟨gb225, 1, none⟩ = some (.slice A1_1 l1_1.length c1_1) := (blk_cell BK225.out 1).trans rfl; have hfz14_0 := blk_frozen BK225.out 0; have hfz14_1 := blk_frozen BK225.out 1))
    go_ret
    exact ⟨by first | rfl | (simp [errW_none, errW_some] <;> rfl) | (simp [*, errW_none, errW_some] <;> rfl), by repeat (first | (with_reducible first | exact HB.out | apply below_alloc | apply pw_below_drewN | apply below_drew1 | refine below_set ?_ GE224.out | refine below_set ?_ GE225.out) | exact HB.out)⟩

-- NOT PRINTED: function 3 (soundservicelaw08_LimiterRuns)

/-! ### soundservicelaw08_LimiterHolds: function 4 -/
mutual
def soundservicelaw08_LimiterHolds.j0 : Nat → List Int → Bool → Int → Int → Int → Int → List Int → Option (Bool)
  | 0, _, _, _, _, _, _, _ => none
  | k + 1, x5, x49, x297000, x297001, x297002, x312000, x312001 => if x49 = true then (some false) else (soundservicelaw08_LimiterHolds.l0 k x5 x312001 (x312001.length : Int) 0 x297000 x297001 x297002)
def soundservicelaw08_LimiterHolds.l0 : Nat → List Int → List Int → Int → Int → Int → Int → Int → Option (Bool)
  | 0, _, _, _, _, _, _, _ => none
  | k + 1, x5, x51, x52, x53, x297000, x297001, x297002 => if x53 < x52 then (if 0 ≤ x53 then (if x53 < (x51.length : Int) then (if (wrap64 (rd x51 x53)) > x297000 then (some false) else (if (wrap64 (-(wrap64 (rd x51 x53)))) > x297000 then (some false) else (if (wrap64 (rd x51 x53)) > 0 then (if x53 < (x5.length : Int) then (if (rd x5 x53) < (wrap64 (rd x51 x53)) then (some false) else (if (wrap64 (rd x51 x53)) < 0 then (if (rd x5 x53) > (wrap64 (rd x51 x53)) then (some false) else (soundservicelaw08_LimiterHolds.l0 k x5 x51 x52 (wrap64 (x53 + 1)) x297000 x297001 x297002)) else (soundservicelaw08_LimiterHolds.l0 k x5 x51 x52 (wrap64 (x53 + 1)) x297000 x297001 x297002))) else (none)) else (if (wrap64 (rd x51 x53)) < 0 then (if x53 < (x5.length : Int) then (if (rd x5 x53) > (wrap64 (rd x51 x53)) then (some false) else (soundservicelaw08_LimiterHolds.l0 k x5 x51 x52 (wrap64 (x53 + 1)) x297000 x297001 x297002)) else (none)) else (soundservicelaw08_LimiterHolds.l0 k x5 x51 x52 (wrap64 (x53 + 1)) x297000 x297001 x297002))))) else (none)) else (none)) else (some true)
end
def soundservicelaw08_LimiterHolds.f (k : Nat) (l0 : List Int) : Option (Bool) := (soundservicelaw08_sane.f k).bind fun t289 => (if t289 = true then ((soundservicemade_New.f l0).bind fun t290 => ((soundservicelaw08_made.f t290).bind fun bt292 => ((soundservicemade_Dice_Next.f bt292.2.2.2 20).bind fun bt297 => ((soundservicelaw08_sums.f k bt297.2 (wrap64 (2 * bt297.1))).bind fun bt299 => ((limiter_Run.f k bt292.1 bt292.2.1 bt292.2.2.1 2 bt299.1).bind fun bt303 => (if bt303.2.2.2.2.2 = 0 then (if (bt303.2.1.length : Int) = (bt299.1.length : Int) then (if bt303.2.2.2.2.1 < 0 then (soundservicelaw08_LimiterHolds.j0 k bt299.1 true bt292.1 bt292.2.1 bt292.2.2.1 bt303.1 bt303.2.1) else (soundservicelaw08_LimiterHolds.j0 k bt299.1 (decide (bt303.2.2.2.2.1 > 65536)) bt292.1 bt292.2.1 bt292.2.2.1 bt303.1 bt303.2.1)) else (soundservicelaw08_LimiterHolds.j0 k bt299.1 true bt292.1 bt292.2.1 bt292.2.2.1 bt303.1 bt303.2.1)) else (soundservicelaw08_LimiterHolds.j0 k bt299.1 true bt292.1 bt292.2.1 bt292.2.2.1 bt303.1 bt303.2.1))))))) else (some false))
theorem soundservicelaw08_LimiterHolds.mono_l : ∀ k, (∀ y0 y1 y2 y3 y4 y5 y6, LeO (soundservicelaw08_LimiterHolds.j0 k y0 y1 y2 y3 y4 y5 y6) (soundservicelaw08_LimiterHolds.j0 (k + 1) y0 y1 y2 y3 y4 y5 y6)) ∧ (∀ y0 y1 y2 y3 y4 y5 y6, LeO (soundservicelaw08_LimiterHolds.l0 k y0 y1 y2 y3 y4 y5 y6) (soundservicelaw08_LimiterHolds.l0 (k + 1) y0 y1 y2 y3 y4 y5 y6))
  | 0 => ⟨fun _ _ _ _ _ _ _ r h => by simp [soundservicelaw08_LimiterHolds.j0] at h, fun _ _ _ _ _ _ _ r h => by simp [soundservicelaw08_LimiterHolds.l0] at h⟩
  | k + 1 => by
    obtain ⟨ih0, ih1⟩ := soundservicelaw08_LimiterHolds.mono_l k
    refine ⟨?_, ?_⟩
    · intro y0 y1 y2 y3 y4 y5 y6
      unfold soundservicelaw08_LimiterHolds.j0
      repeat' first
      | (with_reducible exact ih0 _ _ _ _ _ _ _)
      | (with_reducible exact ih1 _ _ _ _ _ _ _)
      | (with_reducible exact limiter_Run.mono _ _ _ _ _ _)
      | (with_reducible exact soundservicelaw08_sane.mono _)
      | (with_reducible exact soundservicelaw08_sums.mono _ _ _)
      | (with_reducible exact LeO.refl _)
      | (with_reducible exact LeO.none _)
      | (with_reducible refine LeO.ite ?_ ?_)
      | (with_reducible refine LeO.bind ?_ (fun _ => ?_))
      | exact ih0 _ _ _ _ _ _ _
      | exact ih1 _ _ _ _ _ _ _
      | exact limiter_Run.mono _ _ _ _ _ _
      | exact soundservicelaw08_sane.mono _
      | exact soundservicelaw08_sums.mono _ _ _
      | exact LeO.none _
      | refine LeO.ite ?_ ?_
      | refine LeO.bind ?_ (fun _ => ?_)
    · intro y0 y1 y2 y3 y4 y5 y6
      unfold soundservicelaw08_LimiterHolds.l0
      repeat' first
      | (with_reducible exact ih0 _ _ _ _ _ _ _)
      | (with_reducible exact ih1 _ _ _ _ _ _ _)
      | (with_reducible exact limiter_Run.mono _ _ _ _ _ _)
      | (with_reducible exact soundservicelaw08_sane.mono _)
      | (with_reducible exact soundservicelaw08_sums.mono _ _ _)
      | (with_reducible exact LeO.refl _)
      | (with_reducible exact LeO.none _)
      | (with_reducible refine LeO.ite ?_ ?_)
      | (with_reducible refine LeO.bind ?_ (fun _ => ?_))
      | exact ih0 _ _ _ _ _ _ _
      | exact ih1 _ _ _ _ _ _ _
      | exact limiter_Run.mono _ _ _ _ _ _
      | exact soundservicelaw08_sane.mono _
      | exact soundservicelaw08_sums.mono _ _ _
      | exact LeO.none _
      | refine LeO.ite ?_ ?_
      | refine LeO.bind ?_ (fun _ => ?_)
theorem soundservicelaw08_LimiterHolds.mono : ∀ a0 k, LeO (soundservicelaw08_LimiterHolds.f k a0) (soundservicelaw08_LimiterHolds.f (k + 1) a0) := by
  intro a0 k
  obtain ⟨ih0, ih1⟩ := soundservicelaw08_LimiterHolds.mono_l k
  unfold soundservicelaw08_LimiterHolds.f
  repeat' first
      | (with_reducible exact ih0 _ _ _ _ _ _ _)
      | (with_reducible exact ih1 _ _ _ _ _ _ _)
      | (with_reducible exact limiter_Run.mono _ _ _ _ _ _)
      | (with_reducible exact soundservicelaw08_sane.mono _)
      | (with_reducible exact soundservicelaw08_sums.mono _ _ _)
      | (with_reducible exact LeO.refl _)
      | (with_reducible exact LeO.none _)
      | (with_reducible refine LeO.ite ?_ ?_)
      | (with_reducible refine LeO.bind ?_ (fun _ => ?_))
      | exact ih0 _ _ _ _ _ _ _
      | exact ih1 _ _ _ _ _ _ _
      | exact limiter_Run.mono _ _ _ _ _ _
      | exact soundservicelaw08_sane.mono _
      | exact soundservicelaw08_sums.mono _ _ _
      | exact LeO.none _
      | refine LeO.ite ?_ ?_
      | refine LeO.bind ?_ (fun _ => ?_)
set_option maxHeartbeats 8000000 in
set_option maxRecDepth 100000 in
theorem soundservicelaw08_LimiterHolds.calls (k : Nat) (A0 : Option Addr) (c0 : Nat) (l0 : List Int) (r : Bool) (w : World) (hr0 : Kd.C (Kd.int .u8) w A0 l0.length l0) (hc0 : l0.length ≤ c0) (hr_ : r = true) (h : soundservicelaw08_LimiterHolds.f k l0 = some r) :
    Calls Try.prog 4 #[.slice A0 l0.length c0] w fun e w' => e = .returned (.bool r) ∧ Below w.heap.size w w' := by
  have hu23 := Try.underlying23
  have hu36 := Try.underlying36
  have HR_ := Aside0.mk hr_
  clear hr_
  have HR0 := Aside0.mk hr0
  have HC0 := Aside0.mk hc0
  clear hr0 hc0
  have HB := Aside0.mk (Below.refl w.heap.size w)
  have H : ((soundservicelaw08_sane.f k).bind fun t289 => (if t289 = true then ((soundservicemade_New.f l0).bind fun t290 => ((soundservicelaw08_made.f t290).bind fun bt292 => ((soundservicemade_Dice_Next.f bt292.2.2.2 20).bind fun bt297 => ((soundservicelaw08_sums.f k bt297.2 (wrap64 (2 * bt297.1))).bind fun bt299 => ((limiter_Run.f k bt292.1 bt292.2.1 bt292.2.2.1 2 bt299.1).bind fun bt303 => (if bt303.2.2.2.2.2 = 0 then (if (bt303.2.1.length : Int) = (bt299.1.length : Int) then (if bt303.2.2.2.2.1 < 0 then (soundservicelaw08_LimiterHolds.j0 k bt299.1 true bt292.1 bt292.2.1 bt292.2.2.1 bt303.1 bt303.2.1) else (soundservicelaw08_LimiterHolds.j0 k bt299.1 (decide (bt303.2.2.2.2.1 > 65536)) bt292.1 bt292.2.1 bt292.2.2.1 bt303.1 bt303.2.1)) else (soundservicelaw08_LimiterHolds.j0 k bt299.1 true bt292.1 bt292.2.1 bt292.2.2.1 bt303.1 bt303.2.1)) else (soundservicelaw08_LimiterHolds.j0 k bt299.1 true bt292.1 bt292.2.1 bt292.2.2.1 bt303.1 bt303.2.1))))))) else (some false))) = some r := h
  clear h
  replace H := Option.bind_eq_some_iff.mp H
  obtain ⟨t289, A20, H⟩ := H
  replace H : (if t289 = true then ((soundservicemade_New.f l0).bind fun t290 => ((soundservicelaw08_made.f t290).bind fun bt292 => ((soundservicemade_Dice_Next.f bt292.2.2.2 20).bind fun bt297 => ((soundservicelaw08_sums.f k bt297.2 (wrap64 (2 * bt297.1))).bind fun bt299 => ((limiter_Run.f k bt292.1 bt292.2.1 bt292.2.2.1 2 bt299.1).bind fun bt303 => (if bt303.2.2.2.2.2 = 0 then (if (bt303.2.1.length : Int) = (bt299.1.length : Int) then (if bt303.2.2.2.2.1 < 0 then (soundservicelaw08_LimiterHolds.j0 k bt299.1 true bt292.1 bt292.2.1 bt292.2.2.1 bt303.1 bt303.2.1) else (soundservicelaw08_LimiterHolds.j0 k bt299.1 (decide (bt303.2.2.2.2.1 > 65536)) bt292.1 bt292.2.1 bt292.2.2.1 bt303.1 bt303.2.1)) else (soundservicelaw08_LimiterHolds.j0 k bt299.1 true bt292.1 bt292.2.1 bt292.2.2.1 bt303.1 bt303.2.1)) else (soundservicelaw08_LimiterHolds.j0 k bt299.1 true bt292.1 bt292.2.1 bt292.2.2.1 bt303.1 bt303.2.1))))))) else (some false)) = some r := H
  have A2 := Aside0.mk A20
  clear A20
  by_cases c3 : t289 = true
  · subst c3
    have H1 : ((soundservicemade_New.f l0).bind fun t290 => ((soundservicelaw08_made.f t290).bind fun bt292 => ((soundservicemade_Dice_Next.f bt292.2.2.2 20).bind fun bt297 => ((soundservicelaw08_sums.f k bt297.2 (wrap64 (2 * bt297.1))).bind fun bt299 => ((limiter_Run.f k bt292.1 bt292.2.1 bt292.2.2.1 2 bt299.1).bind fun bt303 => (if bt303.2.2.2.2.2 = 0 then (if (bt303.2.1.length : Int) = (bt299.1.length : Int) then (if bt303.2.2.2.2.1 < 0 then (soundservicelaw08_LimiterHolds.j0 k bt299.1 true bt292.1 bt292.2.1 bt292.2.2.1 bt303.1 bt303.2.1) else (soundservicelaw08_LimiterHolds.j0 k bt299.1 (decide (bt303.2.2.2.2.1 > 65536)) bt292.1 bt292.2.1 bt292.2.2.1 bt303.1 bt303.2.1)) else (soundservicelaw08_LimiterHolds.j0 k bt299.1 true bt292.1 bt292.2.1 bt292.2.2.1 bt303.1 bt303.2.1)) else (soundservicelaw08_LimiterHolds.j0 k bt299.1 true bt292.1 bt292.2.1 bt292.2.2.1 bt303.1 bt303.2.1))))))) = some r := by rw [if_pos rfl] at H; exact H
    clear H
    have H := H1
    clear H1
    replace H := Option.bind_eq_some_iff.mp H
    obtain ⟨t290, A40, H⟩ := H
    replace H : ((soundservicelaw08_made.f t290).bind fun bt292 => ((soundservicemade_Dice_Next.f bt292.2.2.2 20).bind fun bt297 => ((soundservicelaw08_sums.f k bt297.2 (wrap64 (2 * bt297.1))).bind fun bt299 => ((limiter_Run.f k bt292.1 bt292.2.1 bt292.2.2.1 2 bt299.1).bind fun bt303 => (if bt303.2.2.2.2.2 = 0 then (if (bt303.2.1.length : Int) = (bt299.1.length : Int) then (if bt303.2.2.2.2.1 < 0 then (soundservicelaw08_LimiterHolds.j0 k bt299.1 true bt292.1 bt292.2.1 bt292.2.2.1 bt303.1 bt303.2.1) else (soundservicelaw08_LimiterHolds.j0 k bt299.1 (decide (bt303.2.2.2.2.1 > 65536)) bt292.1 bt292.2.1 bt292.2.2.1 bt303.1 bt303.2.1)) else (soundservicelaw08_LimiterHolds.j0 k bt299.1 true bt292.1 bt292.2.1 bt292.2.2.1 bt303.1 bt303.2.1)) else (soundservicelaw08_LimiterHolds.j0 k bt299.1 true bt292.1 bt292.2.1 bt292.2.2.1 bt303.1 bt303.2.1)))))) = some r := H
    have A4 := Aside0.mk A40
    clear A40
    replace H := Option.bind_eq_some_iff.mp H
    obtain ⟨⟨t292, t293, t294, t295⟩, A50, H⟩ := H
    replace H : ((soundservicemade_Dice_Next.f t295 20).bind fun bt297 => ((soundservicelaw08_sums.f k bt297.2 (wrap64 (2 * bt297.1))).bind fun bt299 => ((limiter_Run.f k t292 t293 t294 2 bt299.1).bind fun bt303 => (if bt303.2.2.2.2.2 = 0 then (if (bt303.2.1.length : Int) = (bt299.1.length : Int) then (if bt303.2.2.2.2.1 < 0 then (soundservicelaw08_LimiterHolds.j0 k bt299.1 true t292 t293 t294 bt303.1 bt303.2.1) else (soundservicelaw08_LimiterHolds.j0 k bt299.1 (decide (bt303.2.2.2.2.1 > 65536)) t292 t293 t294 bt303.1 bt303.2.1)) else (soundservicelaw08_LimiterHolds.j0 k bt299.1 true t292 t293 t294 bt303.1 bt303.2.1)) else (soundservicelaw08_LimiterHolds.j0 k bt299.1 true t292 t293 t294 bt303.1 bt303.2.1))))) = some r := H
    have A5 := Aside0.mk A50
    clear A50
    replace H := Option.bind_eq_some_iff.mp H
    obtain ⟨⟨t297, t298⟩, A60, H⟩ := H
    replace H : ((soundservicelaw08_sums.f k t298 (wrap64 (2 * t297))).bind fun bt299 => ((limiter_Run.f k t292 t293 t294 2 bt299.1).bind fun bt303 => (if bt303.2.2.2.2.2 = 0 then (if (bt303.2.1.length : Int) = (bt299.1.length : Int) then (if bt303.2.2.2.2.1 < 0 then (soundservicelaw08_LimiterHolds.j0 k bt299.1 true t292 t293 t294 bt303.1 bt303.2.1) else (soundservicelaw08_LimiterHolds.j0 k bt299.1 (decide (bt303.2.2.2.2.1 > 65536)) t292 t293 t294 bt303.1 bt303.2.1)) else (soundservicelaw08_LimiterHolds.j0 k bt299.1 true t292 t293 t294 bt303.1 bt303.2.1)) else (soundservicelaw08_LimiterHolds.j0 k bt299.1 true t292 t293 t294 bt303.1 bt303.2.1)))) = some r := H
    have A6 := Aside0.mk A60
    clear A60
    replace H := Option.bind_eq_some_iff.mp H
    obtain ⟨⟨t299, t302⟩, A70, H⟩ := H
    replace H : ((limiter_Run.f k t292 t293 t294 2 t299).bind fun bt303 => (if bt303.2.2.2.2.2 = 0 then (if (bt303.2.1.length : Int) = (t299.length : Int) then (if bt303.2.2.2.2.1 < 0 then (soundservicelaw08_LimiterHolds.j0 k t299 true t292 t293 t294 bt303.1 bt303.2.1) else (soundservicelaw08_LimiterHolds.j0 k t299 (decide (bt303.2.2.2.2.1 > 65536)) t292 t293 t294 bt303.1 bt303.2.1)) else (soundservicelaw08_LimiterHolds.j0 k t299 true t292 t293 t294 bt303.1 bt303.2.1)) else (soundservicelaw08_LimiterHolds.j0 k t299 true t292 t293 t294 bt303.1 bt303.2.1))) = some r := H
    have A7 := Aside0.mk A70
    clear A70
    replace H := Option.bind_eq_some_iff.mp H
    obtain ⟨⟨t303, t304, t307, t308, t309, t310⟩, A80, H⟩ := H
    replace H : (if t310 = 0 then (if (t304.length : Int) = (t299.length : Int) then (if t309 < 0 then (soundservicelaw08_LimiterHolds.j0 k t299 true t292 t293 t294 t303 t304) else (soundservicelaw08_LimiterHolds.j0 k t299 (decide (t309 > 65536)) t292 t293 t294 t303 t304)) else (soundservicelaw08_LimiterHolds.j0 k t299 true t292 t293 t294 t303 t304)) else (soundservicelaw08_LimiterHolds.j0 k t299 true t292 t293 t294 t303 t304)) = some r := H
    have A8 := Aside0.mk A80
    clear A80
    have HC9 := Aside0.mk H
    clear H
    go_enter Try.func4, Try.ntmps4
    go_upto_region 7 with (first | ((with_reducible refine gate_callee (f := 8) rfl ?_); refine goesL_ (some 12) rfl rfl Try.func8 (by kernel_rfl) rfl #[] rfl (by (try simp only [List.map_toArray, List.map_cons, List.map_nil]); first | done | rfl | (simp only [List.length_drop, List.length_take]; rfl)) ?_; (with_reducible refine (soundservicelaw08_sane.calls k  true _ A2.out).mono ?_); rintro e w10 ⟨rfl, hb⟩; refine ⟨_, rfl, ?_⟩; have n0_ := Aside0.mk (below_step (by repeat (first | (with_reducible first | exact HB.out | apply below_alloc | apply pw_below_drewN | apply below_drew1) | exact HB.out)) hb); clear HB; have HB := n0_; clear n0_; (try clear hb); (try clear hb2); (try clear hk); (try clear hi)) | ((with_reducible refine gate_callee (f := 9) rfl ?_); refine goesL_ (some 15) rfl rfl Try.func9 (by kernel_rfl) rfl #[.slice A0 l0.length c0] rfl (by (try simp only [List.map_toArray, List.map_cons, List.map_nil]); first | done | rfl | (simp only [List.length_drop, List.length_take]; rfl)) ?_; (with_reducible refine (soundservicemade_New.calls _ _ l0 t290 w _ ?side1 ?side2 ?side3 A4.out).mono ?_); (case side1 => repeat (first | (with_reducible first | exact HB.out | apply below_alloc | apply pw_below_drewN | apply below_drew1) | exact HB.out)); (case side2 => exact HR0.out); (case side3 => exact HC0.out); rintro e w11 ⟨g291, rfl, hi, hb, hb2⟩; refine ⟨_, rfl, ?_⟩; have n0_ := Aside0.mk (hb); have n1_ := Aside0.mk (hi); clear HB; have HB := n0_; have HI291 := n1_; clear n0_ n1_; (try clear hb); (try clear hb2); (try clear hk); (try clear hi)) | ((with_reducible refine gate_callee (f := 10) rfl ?_); refine goesL_ (some 17) rfl rfl Try.func10 (by kernel_rfl) rfl #[.pointer (some ⟨g291, 0, none⟩)] rfl (by (try simp only [List.map_toArray, List.map_cons, List.map_nil]); first | done | rfl | (simp only [List.length_drop, List.length_take]; rfl)) ?_; (with_reducible refine (soundservicelaw08_made.calls g291 t290 t292 t293 t294 t295 w _ ?side1 ?side2 A5.out).mono ?_); (case side1 => repeat (first | (with_reducible first | exact HI291.out | apply IsS56.alloc | apply IsS56.drewN | apply IsS56.drew | apply IsS56.set_0) | exact HI291.out)); (case side2 => repeat (first | (with_reducible first | exact HB.out | apply below_alloc | apply pw_below_drewN | apply below_drew1 | refine below_set ?_ (IsS56.ge HI291.out)) | exact HB.out)); rintro e w12 ⟨rfl, hi, hb, hk⟩; refine ⟨_, rfl, ?_⟩; have n0_ := Aside0.mk (hb); have n1_ := Aside0.mk (hi); clear HB; clear HI291; have HB := n0_; have HI291 := n1_; clear n0_ n1_; (try clear hb); (try clear hb2); (try clear hk); (try clear hi)) | ((with_reducible refine gate_dst (N := 4) rfl ?_); (try (refine gate_guard (by rfl) ?_; dsimp only)); refine box_event ?hg (N := 4) ?hd (cs := #[.int .i64 0, .int .i64 0, .int .i64 0]) (t := 23) ?hr ?_; (case hd => rfl); (case hg => rfl); (case hr => first | (go_simp; done) | (go_simp; rfl)); intro gb296 hg w13 hbox hb; have n0_ := Aside0.mk (IsS56.below (by repeat (first | (with_reducible first | exact HI291.out | apply IsS56.alloc | apply IsS56.drewN | apply IsS56.drew | apply IsS56.set_0) | exact HI291.out)) hb); have n1_ := Aside0.mk (below_step (by repeat (first | (with_reducible first | exact HB.out | apply below_alloc | apply pw_below_drewN | apply below_drew1 | refine below_set ?_ (IsS56.ge HI291.out)) | exact HB.out)) hb); have n2_ := Aside0.mk (hbox); have n3_ := Aside0.mk ((by rw [hg]; exact (below_size (by repeat (first | (with_reducible first | exact HB.out | apply below_alloc | apply pw_below_drewN | apply below_drew1 | refine below_set ?_ (IsS56.ge HI291.out)) | exact HB.out))) : w.heap.size ≤ gb296)); have n4_ := Aside0.mk ((by rw [hg]; exact (below_size (by repeat (first | (with_reducible first | exact HB.out | apply below_alloc | apply pw_below_drewN | apply below_drew1 | refine below_set ?_ (IsS56.ge HI291.out)) | exact HB.out))) : w.heap.size ≤ gb296)); have n5_ := Aside0.mk ((by rw [hg]; exact Nat.ne_of_lt (IsS56.lt (show IsS56 w _ g291 t295 from by repeat (first | (with_reducible first | exact HI291.out | apply IsS56.alloc | apply IsS56.drewN | apply IsS56.drew | apply IsS56.set_0) | exact HI291.out))) : g291 ≠ gb296)); have n6_ := Aside0.mk ((by rw [hg]; exact Nat.ne_of_gt (IsS56.lt (show IsS56 w _ g291 t295 from by repeat (first | (with_reducible first | exact HI291.out | apply IsS56.alloc | apply IsS56.drewN | apply IsS56.drew | apply IsS56.set_0) | exact HI291.out))) : gb296 ≠ g291)); clear HI291; clear HB; have HI291 := n0_; have HB := n1_; have BK296 := n2_; have GW296 := n3_; have GE296 := n4_; have NB291_296 := n5_; have NB296_291 := n6_; clear n0_ n1_ n2_ n3_ n4_ n5_ n6_; clear hb hbox hg; have hnb14 := NB296_291.out; have hnc14 := NB291_296.out; have hcz15_0 : w13.cell? ⟨gb296, 0, none⟩ = some (.int .i64 0) := (blk_cell BK296.out 0).trans rfl; have hcz15_1 : w13.cell? ⟨gb296, 1, none⟩ = some (.int .i64 0) := (blk_cell BK296.out 1).trans rfl; have hcz15_2 : w13.cell? ⟨gb296, 2, none⟩ = some (.int .i64 0) := (blk_cell BK296.out 2).trans rfl; have hfz15_0 := blk_frozen BK296.out 0; have hfz15_1 := blk_frozen BK296.out 1; have hfz15_2 := blk_frozen BK296.out 2) | ((with_reducible refine gate_callee (f := 21) rfl ?_); refine goesL_ (some 20) rfl rfl Try.func21 (by kernel_rfl) rfl #[.pointer (some ⟨g291, 0, none⟩), .int .i64 20] rfl (by (try simp only [List.map_toArray, List.map_cons, List.map_nil]); first | done | rfl | (simp only [List.length_drop, List.length_take]; rfl)) ?_; (with_reducible refine (soundservicemade_Dice_Next.calls g291 t295 20 t297 t298 w _ ?side1 ?side2 A6.out).mono ?_); (case side1 => repeat (first | (with_reducible first | exact HI291.out | apply IsS56.alloc | apply IsS56.drewN | apply IsS56.drew | apply IsS56.set_0 | refine IsS56.far ?_ NB291_296.out _) | exact HI291.out)); (case side2 => repeat (first | (with_reducible first | exact HB.out | apply below_alloc | apply pw_below_drewN | apply below_drew1 | refine below_set ?_ (IsS56.ge HI291.out) | refine below_set ?_ GE296.out) | exact HB.out)); rintro e w16 ⟨rfl, hi, hb, hk⟩; refine ⟨_, rfl, ?_⟩; have n0_ := Aside0.mk (KeepBut.blk hk (g' := gb296) (o := .cells #[.int .i64 t292, .int .i64 t293, .int .i64 t294] 23 (0, 0)) (by (with_reducible repeat (first | refine blk_drewN ?_ _ | refine blk_drew ?_ | refine blk_alloc ?_ _)); refine blk_put (cs := #[.int .i64 t292, .int .i64 t293, .int .i64 0]) ?_ 2 _ rfl; (with_reducible repeat (first | refine blk_drewN ?_ _ | refine blk_drew ?_ | refine blk_alloc ?_ _)); refine blk_put (cs := #[.int .i64 t292, .int .i64 0, .int .i64 0]) ?_ 1 _ rfl; (with_reducible repeat (first | refine blk_drewN ?_ _ | refine blk_drew ?_ | refine blk_alloc ?_ _)); refine blk_put (cs := #[.int .i64 0, .int .i64 0, .int .i64 0]) ?_ 0 _ rfl; (with_reducible repeat (first | refine blk_drewN ?_ _ | refine blk_drew ?_ | refine blk_alloc ?_ _)); exact BK296.out) NB296_291.out (by simp)); have n1_ := Aside0.mk (hb); have n2_ := Aside0.mk (hi); clear BK296; clear HB; clear HI291; have BK296 := n0_; have HB := n1_; have HI291 := n2_; clear n0_ n1_ n2_; (try clear hb); (try clear hb2); (try clear hk); (try clear hi)) | ((with_reducible refine gate_callee (f := 11) rfl ?_); refine goesL_ (some 22) rfl rfl Try.func11 (by kernel_rfl) rfl #[.pointer (some ⟨g291, 0, none⟩), .int .i64 (wrap64 (2 * t297))] rfl (by (try simp only [List.map_toArray, List.map_cons, List.map_nil]); first | done | rfl | (simp only [List.length_drop, List.length_take]; rfl)) ?_; (with_reducible refine (soundservicelaw08_sums.calls k g291 t298 (wrap64 (2 * t297)) t299 t302 w _ ?side1 ?side2 A7.out).mono ?_); (case side1 => repeat (first | (with_reducible first | exact HI291.out | apply IsS56.alloc | apply IsS56.drewN | apply IsS56.drew | apply IsS56.set_0 | refine IsS56.far ?_ NB291_296.out _) | exact HI291.out)); (case side2 => repeat (first | (with_reducible first | exact HB.out | apply below_alloc | apply pw_below_drewN | apply below_drew1 | refine below_set ?_ (IsS56.ge HI291.out) | refine below_set ?_ GE296.out) | exact HB.out)); rintro e w17 ⟨v300, rfl, ho0, hi, hb, hk⟩; refine ⟨_, rfl, ?_⟩; have n0_ := Aside0.mk (KeepBut.blk hk (g' := gb296) (o := .cells #[.int .i64 t292, .int .i64 t293, .int .i64 t294] 23 (0, 0)) (by (with_reducible repeat (first | refine blk_drewN ?_ _ | refine blk_drew ?_ | refine blk_alloc ?_ _)); exact BK296.out) NB296_291.out (by simp)); have n1_ := Aside0.mk (Kd.R_lower ho0 (below_size (by repeat (first | (with_reducible first | exact HB.out | apply below_alloc | apply pw_below_drewN | apply below_drew1 | refine below_set ?_ (IsS56.ge HI291.out) | refine below_set ?_ GE296.out) | exact HB.out)))); have n2_ := Aside0.mk (hb); have n3_ := Aside0.mk (hi); clear BK296; clear HB; clear HI291; have BK296 := n0_; have HO301 := n1_; have HB := n2_; have HI291 := n3_; clear n0_ n1_ n2_ n3_; (try clear hb); (try clear hb2); (try clear hk); (try clear hi); (try clear ho0); have hcz18_0 : w17.cell? ⟨gb296, 0, none⟩ = some (.int .i64 t292) := (blk_cell BK296.out 0).trans rfl; have hcz18_1 : w17.cell? ⟨gb296, 1, none⟩ = some (.int .i64 t293) := (blk_cell BK296.out 1).trans rfl; have hcz18_2 : w17.cell? ⟨gb296, 2, none⟩ = some (.int .i64 t294) := (blk_cell BK296.out 2).trans rfl; have hfz18_0 := blk_frozen BK296.out 0; have hfz18_1 := blk_frozen BK296.out 1; have hfz18_2 := blk_frozen BK296.out 2; obtain ⟨Ao19, co19, eo19⟩ := Kd.R_slice HO301.out; subst eo19) | ((with_reducible refine gate_callee (f := 12) rfl ?_); refine goesL_ (some 26) rfl rfl Try.func12 (by kernel_rfl) rfl #[.agg #[.int .i64 t292, .int .i64 t293, .int .i64 t294], .int .i64 2, .slice Ao19 t299.length co19] rfl (by (try simp only [List.map_toArray, List.map_cons, List.map_nil]); first | done | rfl | (simp only [List.length_drop, List.length_take]; rfl)) ?_; (with_reducible refine (limiter_Run.calls k t292 t293 t294 2 _ _ t299 t303 t304 t307 t308 t309 t310 _ ?side1 ?side2 A8.out).mono ?_); (case side1 => repeat (first | exact (Kd.R_reads' HO301.out).2.2 | (with_reducible refine Kd.C_alloc ?_ _) | (with_reducible refine Kd.C_drewN ?_ _) | (with_reducible refine Kd.C_drew ?_))); (case side2 => exact (Kd.R_reads' HO301.out).2.1); rintro e w20 ⟨v305, rfl, ho0, hb⟩; refine ⟨_, rfl, ?_⟩; have n0_ := Aside0.mk (Kd.R_below (by (with_reducible repeat (first | apply Kd.R_alloc | apply Kd.R_drewN | apply Kd.R_drew)); exact HO301.out) hb); have n1_ := Aside0.mk (Kd.R_lower ho0 (below_size (by repeat (first | (with_reducible first | exact HB.out | apply below_alloc | apply pw_below_drewN | apply below_drew1 | refine below_set ?_ (IsS56.ge HI291.out) | refine below_set ?_ GE296.out) | exact HB.out)))); have n2_ := Aside0.mk (IsS56.below (by repeat (first | (with_reducible first | exact HI291.out | apply IsS56.alloc | apply IsS56.drewN | apply IsS56.drew | apply IsS56.set_0 | refine IsS56.far ?_ NB291_296.out _) | exact HI291.out)) hb); have n3_ := Aside0.mk (blk_below (g := gb296) (o := .cells #[.int .i64 t292, .int .i64 t293, .int .i64 t294] 23 (0, 0)) (by (with_reducible repeat (first | refine blk_drewN ?_ _ | refine blk_drew ?_ | refine blk_alloc ?_ _)); exact BK296.out) hb); have n4_ := Aside0.mk (below_step (by repeat (first | (with_reducible first | exact HB.out | apply below_alloc | apply pw_below_drewN | apply below_drew1 | refine below_set ?_ (IsS56.ge HI291.out) | refine below_set ?_ GE296.out) | exact HB.out)) hb); clear HO301; clear HI291; clear BK296; clear HB; have HO301 := n0_; have HO306 := n1_; have HI291 := n2_; have BK296 := n3_; have HB := n4_; clear n0_ n1_ n2_ n3_ n4_; (try clear hb); (try clear hb2); (try clear hk); (try clear hi); (try clear ho0)) | ((with_reducible refine gate_dst (N := 6) rfl ?_); (try (refine gate_guard (by rfl) ?_; dsimp only)); refine box_event ?hg (N := 6) ?hd (cs := #[.int .i64 0, .slice none 0 0]) (t := 36) ?hr ?_; (case hd => rfl); (case hg => rfl); (case hr => first | (go_simp; done) | (go_simp; rfl)); intro gb311 hg w21 hbox hb; have n0_ := Aside0.mk (Kd.R_below (by (with_reducible repeat (first | apply Kd.R_alloc | apply Kd.R_drewN | apply Kd.R_drew)); exact HO301.out) hb); have n1_ := Aside0.mk (Kd.R_below (by (with_reducible repeat (first | apply Kd.R_alloc | apply Kd.R_drewN | apply Kd.R_drew)); exact HO306.out) hb); have n2_ := Aside0.mk (IsS56.below (by repeat (first | (with_reducible first | exact HI291.out | apply IsS56.alloc | apply IsS56.drewN | apply IsS56.drew | apply IsS56.set_0 | refine IsS56.far ?_ NB291_296.out _) | exact HI291.out)) hb); have n3_ := Aside0.mk (blk_below (g := gb296) (o := .cells #[.int .i64 t292, .int .i64 t293, .int .i64 t294] 23 (0, 0)) (by (with_reducible repeat (first | refine blk_drewN ?_ _ | refine blk_drew ?_ | refine blk_alloc ?_ _)); exact BK296.out) hb); have n4_ := Aside0.mk (below_step (by repeat (first | (with_reducible first | exact HB.out | apply below_alloc | apply pw_below_drewN | apply below_drew1 | refine below_set ?_ (IsS56.ge HI291.out) | refine below_set ?_ GE296.out) | exact HB.out)) hb); have n5_ := Aside0.mk (hbox); have n6_ := Aside0.mk ((by rw [hg]; exact (below_size (by repeat (first | (with_reducible first | exact HB.out | apply below_alloc | apply pw_below_drewN | apply below_drew1 | refine below_set ?_ (IsS56.ge HI291.out) | refine below_set ?_ GE296.out) | exact HB.out))) : w.heap.size ≤ gb311)); have n7_ := Aside0.mk ((by rw [hg]; exact (below_size (by repeat (first | (with_reducible first | exact HB.out | apply below_alloc | apply pw_below_drewN | apply below_drew1 | refine below_set ?_ (IsS56.ge HI291.out) | refine below_set ?_ GE296.out) | exact HB.out))) : w.heap.size ≤ gb311)); have n8_ := Aside0.mk ((by rw [hg]; exact Nat.ne_of_lt (blk_lt (g := gb296) (o := .cells #[.int .i64 t292, .int .i64 t293, .int .i64 t294] 23 (0, 0)) (by (with_reducible repeat (first | refine blk_drewN ?_ _ | refine blk_drew ?_ | refine blk_alloc ?_ _)); exact BK296.out)) : gb296 ≠ gb311)); have n9_ := Aside0.mk ((by rw [hg]; exact Nat.ne_of_gt (blk_lt (g := gb296) (o := .cells #[.int .i64 t292, .int .i64 t293, .int .i64 t294] 23 (0, 0)) (by (with_reducible repeat (first | refine blk_drewN ?_ _ | refine blk_drew ?_ | refine blk_alloc ?_ _)); exact BK296.out)) : gb311 ≠ gb296)); have n10_ := Aside0.mk ((by rw [hg]; exact Nat.ne_of_lt (IsS56.lt (show IsS56 w _ g291 t302 from by repeat (first | (with_reducible first | exact HI291.out | apply IsS56.alloc | apply IsS56.drewN | apply IsS56.drew | apply IsS56.set_0 | refine IsS56.far ?_ NB291_296.out _) | exact HI291.out))) : g291 ≠ gb311)); have n11_ := Aside0.mk ((by rw [hg]; exact Nat.ne_of_gt (IsS56.lt (show IsS56 w _ g291 t302 from by repeat (first | (with_reducible first | exact HI291.out | apply IsS56.alloc | apply IsS56.drewN | apply IsS56.drew | apply IsS56.set_0 | refine IsS56.far ?_ NB291_296.out _) | exact HI291.out))) : gb311 ≠ g291)); clear HO301; clear HO306; clear HI291; clear BK296; clear HB; have HO301 := n0_; have HO306 := n1_; have HI291 := n2_; have BK296 := n3_; have HB := n4_; have BK311 := n5_; have GW311 := n6_; have GE311 := n7_; have NB296_311 := n8_; have NB311_296 := n9_; have NB291_311 := n10_; have NB311_291 := n11_; clear n0_ n1_ n2_ n3_ n4_ n5_ n6_ n7_ n8_ n9_ n10_ n11_; clear hb hbox hg) | ((with_reducible refine gate_dst (N := 7) rfl ?_); (try (refine gate_guard (by rfl) ?_; dsimp only)); refine box_event ?hg (N := 7) ?hd (cs := #[.int .i64 0, .int .i64 0, .int .i64 0]) (t := 23) ?hr ?_; (case hd => rfl); (case hg => rfl); (case hr => first | (go_simp; done) | (go_simp; rfl)); intro gb312 hg w22 hbox hb; have n0_ := Aside0.mk (Kd.R_below (by (with_reducible repeat (first | apply Kd.R_alloc | apply Kd.R_drewN | apply Kd.R_drew)); exact HO301.out) hb); have n1_ := Aside0.mk (Kd.R_below (by (with_reducible repeat (first | apply Kd.R_alloc | apply Kd.R_drewN | apply Kd.R_drew)); exact HO306.out) hb); have n2_ := Aside0.mk (IsS56.below (by repeat (first | (with_reducible first | exact HI291.out | apply IsS56.alloc | apply IsS56.drewN | apply IsS56.drew | apply IsS56.set_0 | refine IsS56.far ?_ NB291_296.out _ | refine IsS56.far ?_ NB291_311.out _) | exact HI291.out)) hb); have n3_ := Aside0.mk (blk_below (g := gb296) (o := .cells #[.int .i64 t292, .int .i64 t293, .int .i64 t294] 23 (0, 0)) (by (with_reducible repeat (first | refine blk_drewN ?_ _ | refine blk_drew ?_ | refine blk_alloc ?_ _)); exact BK296.out) hb); have n4_ := Aside0.mk (blk_below (g := gb311) (o := .cells #[.int .i64 0, .slice none 0 0] 36 (0, 0)) (by (with_reducible repeat (first | refine blk_drewN ?_ _ | refine blk_drew ?_ | refine blk_alloc ?_ _)); exact BK311.out) hb); have n5_ := Aside0.mk (below_step (by repeat (first | (with_reducible first | exact HB.out | apply below_alloc | apply pw_below_drewN | apply below_drew1 | refine below_set ?_ (IsS56.ge HI291.out) | refine below_set ?_ GE296.out | refine below_set ?_ GE311.out) | exact HB.out)) hb); have n6_ := Aside0.mk (hbox); have n7_ := Aside0.mk ((by rw [hg]; exact (below_size (by repeat (first | (with_reducible first | exact HB.out | apply below_alloc | apply pw_below_drewN | apply below_drew1 | refine below_set ?_ (IsS56.ge HI291.out) | refine below_set ?_ GE296.out | refine below_set ?_ GE311.out) | exact HB.out))) : w.heap.size ≤ gb312)); have n8_ := Aside0.mk ((by rw [hg]; exact (below_size (by repeat (first | (with_reducible first | exact HB.out | apply below_alloc | apply pw_below_drewN | apply below_drew1 | refine below_set ?_ (IsS56.ge HI291.out) | refine below_set ?_ GE296.out | refine below_set ?_ GE311.out) | exact HB.out))) : w.heap.size ≤ gb312)); have n9_ := Aside0.mk ((by rw [hg]; exact Nat.ne_of_lt (blk_lt (g := gb296) (o := .cells #[.int .i64 t292, .int .i64 t293, .int .i64 t294] 23 (0, 0)) (by (with_reducible repeat (first | refine blk_drewN ?_ _ | refine blk_drew ?_ | refine blk_alloc ?_ _)); exact BK296.out)) : gb296 ≠ gb312)); have n10_ := Aside0.mk ((by rw [hg]; exact Nat.ne_of_gt (blk_lt (g := gb296) (o := .cells #[.int .i64 t292, .int .i64 t293, .int .i64 t294] 23 (0, 0)) (by (with_reducible repeat (first | refine blk_drewN ?_ _ | refine blk_drew ?_ | refine blk_alloc ?_ _)); exact BK296.out)) : gb312 ≠ gb296)); have n11_ := Aside0.mk ((by rw [hg]; exact Nat.ne_of_lt (blk_lt (g := gb311) (o := .cells #[.int .i64 0, .slice none 0 0] 36 (0, 0)) (by (with_reducible repeat (first | refine blk_drewN ?_ _ | refine blk_drew ?_ | refine blk_alloc ?_ _)); exact BK311.out)) : gb311 ≠ gb312)); have n12_ := Aside0.mk ((by rw [hg]; exact Nat.ne_of_gt (blk_lt (g := gb311) (o := .cells #[.int .i64 0, .slice none 0 0] 36 (0, 0)) (by (with_reducible repeat (first | refine blk_drewN ?_ _ | refine blk_drew ?_ | refine blk_alloc ?_ _)); exact BK311.out)) : gb312 ≠ gb311)); have n13_ := Aside0.mk ((by rw [hg]; exact Nat.ne_of_lt (IsS56.lt (show IsS56 w _ g291 t302 from by repeat (first | (with_reducible first | exact HI291.out | apply IsS56.alloc | apply IsS56.drewN | apply IsS56.drew | apply IsS56.set_0 | refine IsS56.far ?_ NB291_296.out _ | refine IsS56.far ?_ NB291_311.out _) | exact HI291.out))) : g291 ≠ gb312)); have n14_ := Aside0.mk ((by rw [hg]; exact Nat.ne_of_gt (IsS56.lt (show IsS56 w _ g291 t302 from by repeat (first | (with_reducible first | exact HI291.out | apply IsS56.alloc | apply IsS56.drewN | apply IsS56.drew | apply IsS56.set_0 | refine IsS56.far ?_ NB291_296.out _ | refine IsS56.far ?_ NB291_311.out _) | exact HI291.out))) : gb312 ≠ g291)); clear HO301; clear HO306; clear HI291; clear BK296; clear BK311; clear HB; have HO301 := n0_; have HO306 := n1_; have HI291 := n2_; have BK296 := n3_; have BK311 := n4_; have HB := n5_; have BK312 := n6_; have GW312 := n7_; have GE312 := n8_; have NB296_312 := n9_; have NB312_296 := n10_; have NB311_312 := n11_; have NB312_311 := n12_; have NB291_312 := n13_; have NB312_291 := n14_; clear n0_ n1_ n2_ n3_ n4_ n5_ n6_ n7_ n8_ n9_ n10_ n11_ n12_ n13_ n14_; clear hb hbox hg; have hnb23 := NB311_296.out; have hnc23 := NB296_311.out; have hnb24 := NB311_312.out; have hnc24 := NB312_311.out; have hnb25 := NB311_291.out; have hnc25 := NB291_311.out; have hcz26_0 : w22.cell? ⟨gb311, 0, none⟩ = some (.int .i64 0) := (blk_cell BK311.out 0).trans rfl; have hcz26_1 : w22.cell? ⟨gb311, 1, none⟩ = some (.slice none 0 0) := (blk_cell BK311.out 1).trans rfl; have hfz26_0 := blk_frozen BK311.out 0; have hfz26_1 := blk_frozen BK311.out 1; obtain ⟨Ao27, co27, eo27⟩ := Kd.R_slice HO306.out; subst eo27; have hnb28 := NB312_296.out; have hnc28 := NB296_312.out; have hnb29 := NB312_291.out; have hnc29 := NB291_312.out; have hcz30_0 : w22.cell? ⟨gb312, 0, none⟩ = some (.int .i64 0) := (blk_cell BK312.out 0).trans rfl; have hcz30_1 : w22.cell? ⟨gb312, 1, none⟩ = some (.int .i64 0) := (blk_cell BK312.out 1).trans rfl; have hcz30_2 : w22.cell? ⟨gb312, 2, none⟩ = some (.int .i64 0) := (blk_cell BK312.out 2).trans rfl; have hfz30_0 := blk_frozen BK312.out 0; have hfz30_1 := blk_frozen BK312.out 1; have hfz30_2 := blk_frozen BK312.out 2))
    (try simp only [Act.put, List.setIfInBounds_toArray, List.set_cons_zero, List.set_cons_succ])
    go_cut [49] (fun v49 wc => ∃ (kq : Nat) (x49_8 : Bool), v49 = .bool x49_8 ∧ Aside0 (soundservicelaw08_LimiterHolds.j0 kq t299 x49_8 t292 t293 t294 t303 t304 = some r) ∧ Aside0 (kq ≤ k) ∧ Aside0 (Kd.R (Kd.int .i64) 2 wc w.heap.size (fun _ => True) (.slice Ao19 t299.length co19) t299) ∧ Aside0 (Kd.R (Kd.int .i32) 21 wc w.heap.size (fun _ => True) (.slice Ao27 t304.length co27) t304) ∧ Aside0 (wc.heap[gb296]? = some (.cells #[.int .i64 t292, .int .i64 t293, .int .i64 t294] 23 (0, 0))) ∧ Aside0 (wc.heap[gb311]? = some (.cells #[.int .i64 t303, (.slice Ao27 t304.length co27)] 36 (0, 0))) ∧ Aside0 (wc.heap[gb312]? = some (.cells #[.int .i64 t307, .int .i64 t308, .int .i64 t309] 23 (0, 0))) ∧ Aside0 (Below w.heap.size w wc))
    case first =>
      have H := HC9.out
      clear HC9
      by_cases c31 : t310 = 0
      · rw [if_pos c31] at H
        have c31b0 : (t310 == 0) = true := beq_iff_eq.mpr c31
        have c31b1 : (t310 != 0) = false := bne_eq_false_iff_eq.mpr c31
        clear c31
        (first | rw [c31b0] | (simp only [i64_w, i32_w]; rw [c31b0]) | skip)
        by_cases c32 : (t304.length : Int) = (t299.length : Int)
        · rw [if_pos c32] at H
          have c32b0 : ((t304.length : Int) == (t299.length : Int)) = true := beq_iff_eq.mpr c32
          have c32b1 : ((t304.length : Int) != (t299.length : Int)) = false := bne_eq_false_iff_eq.mpr c32
          have c32b2 : (t304.length == t299.length) = true := by first | simpa using c32 | (simp at c32 ⊢; omega)
          clear c32
          by_cases c33 : t309 < 0
          · rw [if_pos c33] at H
            have c33b0 : decide (t309 < 0) = true := decide_eq_true c33
            clear c33
            have H' := Aside0.mk H
            clear H
            have hnb34 := NB311_296.out
            have hnc34 := NB296_311.out
            have hnb35 := NB311_312.out
            have hnc35 := NB312_311.out
            have hnb36 := NB311_291.out
            have hnc36 := NB291_311.out
            have hcz37_0 : w22.cell? ⟨gb311, 0, none⟩ = some (.int .i64 0) := (blk_cell BK311.out 0).trans rfl
            have hcz37_1 : w22.cell? ⟨gb311, 1, none⟩ = some (.slice none 0 0) := (blk_cell BK311.out 1).trans rfl
            have hfz37_0 := blk_frozen BK311.out 0
            have hfz37_1 := blk_frozen BK311.out 1
            have hnb38 := NB312_296.out
            have hnc38 := NB296_312.out
            have hnb39 := NB312_291.out
            have hnc39 := NB291_312.out
            have hcz40_0 : w22.cell? ⟨gb312, 0, none⟩ = some (.int .i64 0) := (blk_cell BK312.out 0).trans rfl
            have hcz40_1 : w22.cell? ⟨gb312, 1, none⟩ = some (.int .i64 0) := (blk_cell BK312.out 1).trans rfl
            have hcz40_2 : w22.cell? ⟨gb312, 2, none⟩ = some (.int .i64 0) := (blk_cell BK312.out 2).trans rfl
            have hfz40_0 := blk_frozen BK312.out 0
            have hfz40_1 := blk_frozen BK312.out 1
            have hfz40_2 := blk_frozen BK312.out 2
            go_wp2
            go_meet
            case rel => exact ⟨_, (true), (by first | rfl | (simp; done) | (simp [*]; done)), H', ⟨by first | omega | exact Nat.le_refl _⟩, ⟨by (with_reducible repeat (first | apply Kd.R_alloc | apply Kd.R_drewN | apply Kd.R_drew)); exact Kd.R_mono (Kd.R_far (p := ⟨gb312, 2, none⟩) (Kd.R_far (p := ⟨gb312, 1, none⟩) (Kd.R_far (p := ⟨gb312, 0, none⟩) (Kd.R_far (p := ⟨gb311, 1, none⟩) (Kd.R_far (p := ⟨gb311, 0, none⟩) (Kd.R_types (Kd.R_types HO301.out BK311.out (by decide)) BK312.out (by decide)) (fun _ hk => hk.1.2) (.int .i64 t303)) (fun _ hk => hk.1.2) (.slice Ao27 t304.length co27)) (fun _ hk => hk.2) (.int .i64 t307)) (fun _ hk => hk.2) (.int .i64 t308)) (fun _ hk => hk.2) (.int .i64 t309)) (fun _ hk => trivial)⟩, ⟨by (with_reducible repeat (first | apply Kd.R_alloc | apply Kd.R_drewN | apply Kd.R_drew)); exact Kd.R_mono (Kd.R_far (p := ⟨gb312, 2, none⟩) (Kd.R_far (p := ⟨gb312, 1, none⟩) (Kd.R_far (p := ⟨gb312, 0, none⟩) (Kd.R_far (p := ⟨gb311, 1, none⟩) (Kd.R_far (p := ⟨gb311, 0, none⟩) (Kd.R_types (Kd.R_types HO306.out BK311.out (by decide)) BK312.out (by decide)) (fun _ hk => hk.1.2) (.int .i64 t303)) (fun _ hk => hk.1.2) (.slice Ao27 t304.length co27)) (fun _ hk => hk.2) (.int .i64 t307)) (fun _ hk => hk.2) (.int .i64 t308)) (fun _ hk => hk.2) (.int .i64 t309)) (fun _ hk => trivial)⟩, ⟨by (with_reducible repeat (first | refine blk_drewN ?_ _ | refine blk_drew ?_ | refine blk_alloc ?_ _)); refine blk_far ?_ NB296_312.out _; (with_reducible repeat (first | refine blk_drewN ?_ _ | refine blk_drew ?_ | refine blk_alloc ?_ _)); refine blk_far ?_ NB296_312.out _; (with_reducible repeat (first | refine blk_drewN ?_ _ | refine blk_drew ?_ | refine blk_alloc ?_ _)); refine blk_far ?_ NB296_312.out _; (with_reducible repeat (first | refine blk_drewN ?_ _ | refine blk_drew ?_ | refine blk_alloc ?_ _)); refine blk_far ?_ NB296_311.out _; (with_reducible repeat (first | refine blk_drewN ?_ _ | refine blk_drew ?_ | refine blk_alloc ?_ _)); refine blk_far ?_ NB296_311.out _; (with_reducible repeat (first | refine blk_drewN ?_ _ | refine blk_drew ?_ | refine blk_alloc ?_ _)); exact BK296.out⟩, ⟨by (with_reducible repeat (first | refine blk_drewN ?_ _ | refine blk_drew ?_ | refine blk_alloc ?_ _)); refine blk_far ?_ NB311_312.out _; (with_reducible repeat (first | refine blk_drewN ?_ _ | refine blk_drew ?_ | refine blk_alloc ?_ _)); refine blk_far ?_ NB311_312.out _; (with_reducible repeat (first | refine blk_drewN ?_ _ | refine blk_drew ?_ | refine blk_alloc ?_ _)); refine blk_far ?_ NB311_312.out _; (with_reducible repeat (first | refine blk_drewN ?_ _ | refine blk_drew ?_ | refine blk_alloc ?_ _)); refine blk_put (cs := #[.int .i64 t303, .slice none 0 0]) ?_ 1 _ rfl; (with_reducible repeat (first | refine blk_drewN ?_ _ | refine blk_drew ?_ | refine blk_alloc ?_ _)); refine blk_put (cs := #[.int .i64 0, .slice none 0 0]) ?_ 0 _ rfl; (with_reducible repeat (first | refine blk_drewN ?_ _ | refine blk_drew ?_ | refine blk_alloc ?_ _)); exact BK311.out⟩, ⟨by (with_reducible repeat (first | refine blk_drewN ?_ _ | refine blk_drew ?_ | refine blk_alloc ?_ _)); refine blk_put (cs := #[.int .i64 t307, .int .i64 t308, .int .i64 0]) ?_ 2 _ rfl; (with_reducible repeat (first | refine blk_drewN ?_ _ | refine blk_drew ?_ | refine blk_alloc ?_ _)); refine blk_put (cs := #[.int .i64 t307, .int .i64 0, .int .i64 0]) ?_ 1 _ rfl; (with_reducible repeat (first | refine blk_drewN ?_ _ | refine blk_drew ?_ | refine blk_alloc ?_ _)); refine blk_put (cs := #[.int .i64 0, .int .i64 0, .int .i64 0]) ?_ 0 _ rfl; (with_reducible repeat (first | refine blk_drewN ?_ _ | refine blk_drew ?_ | refine blk_alloc ?_ _)); refine blk_far ?_ NB312_311.out _; (with_reducible repeat (first | refine blk_drewN ?_ _ | refine blk_drew ?_ | refine blk_alloc ?_ _)); refine blk_far ?_ NB312_311.out _; (with_reducible repeat (first | refine blk_drewN ?_ _ | refine blk_drew ?_ | refine blk_alloc ?_ _)); exact BK312.out⟩, ⟨by repeat (first | (with_reducible first | exact HB.out | apply below_alloc | apply pw_below_drewN | apply below_drew1 | refine below_set ?_ (IsS56.ge HI291.out) | refine below_set ?_ GE296.out | refine below_set ?_ GE311.out | refine below_set ?_ GE312.out) | exact HB.out)⟩⟩
          · rw [if_neg c33] at H
            have c33b0 : decide (t309 < 0) = false := decide_eq_false c33
            clear c33
            have H' := Aside0.mk H
            clear H
            have hnb41 := NB311_296.out
            have hnc41 := NB296_311.out
            have hnb42 := NB311_312.out
            have hnc42 := NB312_311.out
            have hnb43 := NB311_291.out
            have hnc43 := NB291_311.out
            have hcz44_0 : w22.cell? ⟨gb311, 0, none⟩ = some (.int .i64 0) := (blk_cell BK311.out 0).trans rfl
            have hcz44_1 : w22.cell? ⟨gb311, 1, none⟩ = some (.slice none 0 0) := (blk_cell BK311.out 1).trans rfl
            have hfz44_0 := blk_frozen BK311.out 0
            have hfz44_1 := blk_frozen BK311.out 1
            have hnb45 := NB312_296.out
            have hnc45 := NB296_312.out
            have hnb46 := NB312_291.out
            have hnc46 := NB291_312.out
            have hcz47_0 : w22.cell? ⟨gb312, 0, none⟩ = some (.int .i64 0) := (blk_cell BK312.out 0).trans rfl
            have hcz47_1 : w22.cell? ⟨gb312, 1, none⟩ = some (.int .i64 0) := (blk_cell BK312.out 1).trans rfl
            have hcz47_2 : w22.cell? ⟨gb312, 2, none⟩ = some (.int .i64 0) := (blk_cell BK312.out 2).trans rfl
            have hfz47_0 := blk_frozen BK312.out 0
            have hfz47_1 := blk_frozen BK312.out 1
            have hfz47_2 := blk_frozen BK312.out 2
            go_wp2
            go_meet
            case rel => exact ⟨_, (decide (t309 > 65536)), (by first | rfl | (simp; done) | (simp [*]; done)), H', ⟨by first | omega | exact Nat.le_refl _⟩, ⟨by (with_reducible repeat (first | apply Kd.R_alloc | apply Kd.R_drewN | apply Kd.R_drew)); exact Kd.R_mono (Kd.R_far (p := ⟨gb312, 2, none⟩) (Kd.R_far (p := ⟨gb312, 1, none⟩) (Kd.R_far (p := ⟨gb312, 0, none⟩) (Kd.R_far (p := ⟨gb311, 1, none⟩) (Kd.R_far (p := ⟨gb311, 0, none⟩) (Kd.R_types (Kd.R_types HO301.out BK311.out (by decide)) BK312.out (by decide)) (fun _ hk => hk.1.2) (.int .i64 t303)) (fun _ hk => hk.1.2) (.slice Ao27 t304.length co27)) (fun _ hk => hk.2) (.int .i64 t307)) (fun _ hk => hk.2) (.int .i64 t308)) (fun _ hk => hk.2) (.int .i64 t309)) (fun _ hk => trivial)⟩, ⟨by (with_reducible repeat (first | apply Kd.R_alloc | apply Kd.R_drewN | apply Kd.R_drew)); exact Kd.R_mono (Kd.R_far (p := ⟨gb312, 2, none⟩) (Kd.R_far (p := ⟨gb312, 1, none⟩) (Kd.R_far (p := ⟨gb312, 0, none⟩) (Kd.R_far (p := ⟨gb311, 1, none⟩) (Kd.R_far (p := ⟨gb311, 0, none⟩) (Kd.R_types (Kd.R_types HO306.out BK311.out (by decide)) BK312.out (by decide)) (fun _ hk => hk.1.2) (.int .i64 t303)) (fun _ hk => hk.1.2) (.slice Ao27 t304.length co27)) (fun _ hk => hk.2) (.int .i64 t307)) (fun _ hk => hk.2) (.int .i64 t308)) (fun _ hk => hk.2) (.int .i64 t309)) (fun _ hk => trivial)⟩, ⟨by (with_reducible repeat (first | refine blk_drewN ?_ _ | refine blk_drew ?_ | refine blk_alloc ?_ _)); refine blk_far ?_ NB296_312.out _; (with_reducible repeat (first | refine blk_drewN ?_ _ | refine blk_drew ?_ | refine blk_alloc ?_ _)); refine blk_far ?_ NB296_312.out _; (with_reducible repeat (first | refine blk_drewN ?_ _ | refine blk_drew ?_ | refine blk_alloc ?_ _)); refine blk_far ?_ NB296_312.out _; (with_reducible repeat (first | refine blk_drewN ?_ _ | refine blk_drew ?_ | refine blk_alloc ?_ _)); refine blk_far ?_ NB296_311.out _; (with_reducible repeat (first | refine blk_drewN ?_ _ | refine blk_drew ?_ | refine blk_alloc ?_ _)); refine blk_far ?_ NB296_311.out _; (with_reducible repeat (first | refine blk_drewN ?_ _ | refine blk_drew ?_ | refine blk_alloc ?_ _)); exact BK296.out⟩, ⟨by (with_reducible repeat (first | refine blk_drewN ?_ _ | refine blk_drew ?_ | refine blk_alloc ?_ _)); refine blk_far ?_ NB311_312.out _; (with_reducible repeat (first | refine blk_drewN ?_ _ | refine blk_drew ?_ | refine blk_alloc ?_ _)); refine blk_far ?_ NB311_312.out _; (with_reducible repeat (first | refine blk_drewN ?_ _ | refine blk_drew ?_ | refine blk_alloc ?_ _)); refine blk_far ?_ NB311_312.out _; (with_reducible repeat (first | refine blk_drewN ?_ _ | refine blk_drew ?_ | refine blk_alloc ?_ _)); refine blk_put (cs := #[.int .i64 t303, .slice none 0 0]) ?_ 1 _ rfl; (with_reducible repeat (first | refine blk_drewN ?_ _ | refine blk_drew ?_ | refine blk_alloc ?_ _)); refine blk_put (cs := #[.int .i64 0, .slice none 0 0]) ?_ 0 _ rfl; (with_reducible repeat (first | refine blk_drewN ?_ _ | refine blk_drew ?_ | refine blk_alloc ?_ _)); exact BK311.out⟩, ⟨by (with_reducible repeat (first | refine blk_drewN ?_ _ | refine blk_drew ?_ | refine blk_alloc ?_ _)); refine blk_put (cs := #[.int .i64 t307, .int .i64 t308, .int .i64 0]) ?_ 2 _ rfl; (with_reducible repeat (first | refine blk_drewN ?_ _ | refine blk_drew ?_ | refine blk_alloc ?_ _)); refine blk_put (cs := #[.int .i64 t307, .int .i64 0, .int .i64 0]) ?_ 1 _ rfl; (with_reducible repeat (first | refine blk_drewN ?_ _ | refine blk_drew ?_ | refine blk_alloc ?_ _)); refine blk_put (cs := #[.int .i64 0, .int .i64 0, .int .i64 0]) ?_ 0 _ rfl; (with_reducible repeat (first | refine blk_drewN ?_ _ | refine blk_drew ?_ | refine blk_alloc ?_ _)); refine blk_far ?_ NB312_311.out _; (with_reducible repeat (first | refine blk_drewN ?_ _ | refine blk_drew ?_ | refine blk_alloc ?_ _)); refine blk_far ?_ NB312_311.out _; (with_reducible repeat (first | refine blk_drewN ?_ _ | refine blk_drew ?_ | refine blk_alloc ?_ _)); exact BK312.out⟩, ⟨by repeat (first | (with_reducible first | exact HB.out | apply below_alloc | apply pw_below_drewN | apply below_drew1 | refine below_set ?_ (IsS56.ge HI291.out) | refine below_set ?_ GE296.out | refine below_set ?_ GE311.out | refine below_set ?_ GE312.out) | exact HB.out)⟩⟩
        · rw [if_neg c32] at H
          have c32b0 : ((t304.length : Int) == (t299.length : Int)) = false := beq_eq_false_iff_ne.mpr c32
          have c32b1 : ((t304.length : Int) != (t299.length : Int)) = true := bne_iff_ne.mpr c32
          have c32b2 : (t304.length == t299.length) = false := by first | simpa using c32 | (simp at c32 ⊢; omega)
          have H' := Aside0.mk H
          clear H
          have hnb48 := NB311_296.out
          have hnc48 := NB296_311.out
          have hnb49 := NB311_312.out
          have hnc49 := NB312_311.out
          have hnb50 := NB311_291.out
          have hnc50 := NB291_311.out
          have hcz51_0 : w22.cell? ⟨gb311, 0, none⟩ = some (.int .i64 0) := (blk_cell BK311.out 0).trans rfl
          have hcz51_1 : w22.cell? ⟨gb311, 1, none⟩ = some (.slice none 0 0) := (blk_cell BK311.out 1).trans rfl
          have hfz51_0 := blk_frozen BK311.out 0
          have hfz51_1 := blk_frozen BK311.out 1
          go_wp2
          go_meet
          case rel => exact ⟨_, (true), (by first | rfl | (simp; done) | (simp [*]; done)), H', ⟨by first | omega | exact Nat.le_refl _⟩, ⟨by (with_reducible repeat (first | apply Kd.R_alloc | apply Kd.R_drewN | apply Kd.R_drew)); exact Kd.R_mono (Kd.R_far (p := ⟨gb312, 2, none⟩) (Kd.R_far (p := ⟨gb312, 1, none⟩) (Kd.R_far (p := ⟨gb312, 0, none⟩) (Kd.R_far (p := ⟨gb311, 1, none⟩) (Kd.R_far (p := ⟨gb311, 0, none⟩) (Kd.R_types (Kd.R_types HO301.out BK311.out (by decide)) BK312.out (by decide)) (fun _ hk => hk.1.2) (.int .i64 t303)) (fun _ hk => hk.1.2) (.slice Ao27 t304.length co27)) (fun _ hk => hk.2) (.int .i64 t307)) (fun _ hk => hk.2) (.int .i64 t308)) (fun _ hk => hk.2) (.int .i64 t309)) (fun _ hk => trivial)⟩, ⟨by (with_reducible repeat (first | apply Kd.R_alloc | apply Kd.R_drewN | apply Kd.R_drew)); exact Kd.R_mono (Kd.R_far (p := ⟨gb312, 2, none⟩) (Kd.R_far (p := ⟨gb312, 1, none⟩) (Kd.R_far (p := ⟨gb312, 0, none⟩) (Kd.R_far (p := ⟨gb311, 1, none⟩) (Kd.R_far (p := ⟨gb311, 0, none⟩) (Kd.R_types (Kd.R_types HO306.out BK311.out (by decide)) BK312.out (by decide)) (fun _ hk => hk.1.2) (.int .i64 t303)) (fun _ hk => hk.1.2) (.slice Ao27 t304.length co27)) (fun _ hk => hk.2) (.int .i64 t307)) (fun _ hk => hk.2) (.int .i64 t308)) (fun _ hk => hk.2) (.int .i64 t309)) (fun _ hk => trivial)⟩, ⟨by (with_reducible repeat (first | refine blk_drewN ?_ _ | refine blk_drew ?_ | refine blk_alloc ?_ _)); refine blk_far ?_ NB296_312.out _; (with_reducible repeat (first | refine blk_drewN ?_ _ | refine blk_drew ?_ | refine blk_alloc ?_ _)); refine blk_far ?_ NB296_312.out _; (with_reducible repeat (first | refine blk_drewN ?_ _ | refine blk_drew ?_ | refine blk_alloc ?_ _)); refine blk_far ?_ NB296_312.out _; (with_reducible repeat (first | refine blk_drewN ?_ _ | refine blk_drew ?_ | refine blk_alloc ?_ _)); refine blk_far ?_ NB296_311.out _; (with_reducible repeat (first | refine blk_drewN ?_ _ | refine blk_drew ?_ | refine blk_alloc ?_ _)); refine blk_far ?_ NB296_311.out _; (with_reducible repeat (first | refine blk_drewN ?_ _ | refine blk_drew ?_ | refine blk_alloc ?_ _)); exact BK296.out⟩, ⟨by (with_reducible repeat (first | refine blk_drewN ?_ _ | refine blk_drew ?_ | refine blk_alloc ?_ _)); refine blk_far ?_ NB311_312.out _; (with_reducible repeat (first | refine blk_drewN ?_ _ | refine blk_drew ?_ | refine blk_alloc ?_ _)); refine blk_far ?_ NB311_312.out _; (with_reducible repeat (first | refine blk_drewN ?_ _ | refine blk_drew ?_ | refine blk_alloc ?_ _)); refine blk_far ?_ NB311_312.out _; (with_reducible repeat (first | refine blk_drewN ?_ _ | refine blk_drew ?_ | refine blk_alloc ?_ _)); refine blk_put (cs := #[.int .i64 t303, .slice none 0 0]) ?_ 1 _ rfl; (with_reducible repeat (first | refine blk_drewN ?_ _ | refine blk_drew ?_ | refine blk_alloc ?_ _)); refine blk_put (cs := #[.int .i64 0, .slice none 0 0]) ?_ 0 _ rfl; (with_reducible repeat (first | refine blk_drewN ?_ _ | refine blk_drew ?_ | refine blk_alloc ?_ _)); exact BK311.out⟩, ⟨by (with_reducible repeat (first | refine blk_drewN ?_ _ | refine blk_drew ?_ | refine blk_alloc ?_ _)); refine blk_put (cs := #[.int .i64 t307, .int .i64 t308, .int .i64 0]) ?_ 2 _ rfl; (with_reducible repeat (first | refine blk_drewN ?_ _ | refine blk_drew ?_ | refine blk_alloc ?_ _)); refine blk_put (cs := #[.int .i64 t307, .int .i64 0, .int .i64 0]) ?_ 1 _ rfl; (with_reducible repeat (first | refine blk_drewN ?_ _ | refine blk_drew ?_ | refine blk_alloc ?_ _)); refine blk_put (cs := #[.int .i64 0, .int .i64 0, .int .i64 0]) ?_ 0 _ rfl; (with_reducible repeat (first | refine blk_drewN ?_ _ | refine blk_drew ?_ | refine blk_alloc ?_ _)); refine blk_far ?_ NB312_311.out _; (with_reducible repeat (first | refine blk_drewN ?_ _ | refine blk_drew ?_ | refine blk_alloc ?_ _)); refine blk_far ?_ NB312_311.out _; (with_reducible repeat (first | refine blk_drewN ?_ _ | refine blk_drew ?_ | refine blk_alloc ?_ _)); exact BK312.out⟩, ⟨by repeat (first | (with_reducible first | exact HB.out | apply below_alloc | apply pw_below_drewN | apply below_drew1 | refine below_set ?_ (IsS56.ge HI291.out) | refine below_set ?_ GE296.out | refine below_set ?_ GE311.out | refine below_set ?_ GE312.out) | exact HB.out)⟩⟩
      · rw [if_neg c31] at H
        have c31b0 : (t310 == 0) = false := beq_eq_false_iff_ne.mpr c31
        have c31b1 : (t310 != 0) = true := bne_iff_ne.mpr c31
        (first | rw [c31b0] | (simp only [i64_w, i32_w]; rw [c31b0]) | skip)
        have H' := Aside0.mk H
        clear H
        go_wp2
        go_meet
        case rel => exact ⟨_, (true), (by first | rfl | (simp; done) | (simp [*]; done)), H', ⟨by first | omega | exact Nat.le_refl _⟩, ⟨by (with_reducible repeat (first | apply Kd.R_alloc | apply Kd.R_drewN | apply Kd.R_drew)); exact Kd.R_mono (Kd.R_far (p := ⟨gb312, 2, none⟩) (Kd.R_far (p := ⟨gb312, 1, none⟩) (Kd.R_far (p := ⟨gb312, 0, none⟩) (Kd.R_far (p := ⟨gb311, 1, none⟩) (Kd.R_far (p := ⟨gb311, 0, none⟩) (Kd.R_types (Kd.R_types HO301.out BK311.out (by decide)) BK312.out (by decide)) (fun _ hk => hk.1.2) (.int .i64 t303)) (fun _ hk => hk.1.2) (.slice Ao27 t304.length co27)) (fun _ hk => hk.2) (.int .i64 t307)) (fun _ hk => hk.2) (.int .i64 t308)) (fun _ hk => hk.2) (.int .i64 t309)) (fun _ hk => trivial)⟩, ⟨by (with_reducible repeat (first | apply Kd.R_alloc | apply Kd.R_drewN | apply Kd.R_drew)); exact Kd.R_mono (Kd.R_far (p := ⟨gb312, 2, none⟩) (Kd.R_far (p := ⟨gb312, 1, none⟩) (Kd.R_far (p := ⟨gb312, 0, none⟩) (Kd.R_far (p := ⟨gb311, 1, none⟩) (Kd.R_far (p := ⟨gb311, 0, none⟩) (Kd.R_types (Kd.R_types HO306.out BK311.out (by decide)) BK312.out (by decide)) (fun _ hk => hk.1.2) (.int .i64 t303)) (fun _ hk => hk.1.2) (.slice Ao27 t304.length co27)) (fun _ hk => hk.2) (.int .i64 t307)) (fun _ hk => hk.2) (.int .i64 t308)) (fun _ hk => hk.2) (.int .i64 t309)) (fun _ hk => trivial)⟩, ⟨by (with_reducible repeat (first | refine blk_drewN ?_ _ | refine blk_drew ?_ | refine blk_alloc ?_ _)); refine blk_far ?_ NB296_312.out _; (with_reducible repeat (first | refine blk_drewN ?_ _ | refine blk_drew ?_ | refine blk_alloc ?_ _)); refine blk_far ?_ NB296_312.out _; (with_reducible repeat (first | refine blk_drewN ?_ _ | refine blk_drew ?_ | refine blk_alloc ?_ _)); refine blk_far ?_ NB296_312.out _; (with_reducible repeat (first | refine blk_drewN ?_ _ | refine blk_drew ?_ | refine blk_alloc ?_ _)); refine blk_far ?_ NB296_311.out _; (with_reducible repeat (first | refine blk_drewN ?_ _ | refine blk_drew ?_ | refine blk_alloc ?_ _)); refine blk_far ?_ NB296_311.out _; (with_reducible repeat (first | refine blk_drewN ?_ _ | refine blk_drew ?_ | refine blk_alloc ?_ _)); exact BK296.out⟩, ⟨by (with_reducible repeat (first | refine blk_drewN ?_ _ | refine blk_drew ?_ | refine blk_alloc ?_ _)); refine blk_far ?_ NB311_312.out _; (with_reducible repeat (first | refine blk_drewN ?_ _ | refine blk_drew ?_ | refine blk_alloc ?_ _)); refine blk_far ?_ NB311_312.out _; (with_reducible repeat (first | refine blk_drewN ?_ _ | refine blk_drew ?_ | refine blk_alloc ?_ _)); refine blk_far ?_ NB311_312.out _; (with_reducible repeat (first | refine blk_drewN ?_ _ | refine blk_drew ?_ | refine blk_alloc ?_ _)); refine blk_put (cs := #[.int .i64 t303, .slice none 0 0]) ?_ 1 _ rfl; (with_reducible repeat (first | refine blk_drewN ?_ _ | refine blk_drew ?_ | refine blk_alloc ?_ _)); refine blk_put (cs := #[.int .i64 0, .slice none 0 0]) ?_ 0 _ rfl; (with_reducible repeat (first | refine blk_drewN ?_ _ | refine blk_drew ?_ | refine blk_alloc ?_ _)); exact BK311.out⟩, ⟨by (with_reducible repeat (first | refine blk_drewN ?_ _ | refine blk_drew ?_ | refine blk_alloc ?_ _)); refine blk_put (cs := #[.int .i64 t307, .int .i64 t308, .int .i64 0]) ?_ 2 _ rfl; (with_reducible repeat (first | refine blk_drewN ?_ _ | refine blk_drew ?_ | refine blk_alloc ?_ _)); refine blk_put (cs := #[.int .i64 t307, .int .i64 0, .int .i64 0]) ?_ 1 _ rfl; (with_reducible repeat (first | refine blk_drewN ?_ _ | refine blk_drew ?_ | refine blk_alloc ?_ _)); refine blk_put (cs := #[.int .i64 0, .int .i64 0, .int .i64 0]) ?_ 0 _ rfl; (with_reducible repeat (first | refine blk_drewN ?_ _ | refine blk_drew ?_ | refine blk_alloc ?_ _)); refine blk_far ?_ NB312_311.out _; (with_reducible repeat (first | refine blk_drewN ?_ _ | refine blk_drew ?_ | refine blk_alloc ?_ _)); refine blk_far ?_ NB312_311.out _; (with_reducible repeat (first | refine blk_drewN ?_ _ | refine blk_drew ?_ | refine blk_alloc ?_ _)); exact BK312.out⟩, ⟨by repeat (first | (with_reducible first | exact HB.out | apply below_alloc | apply pw_below_drewN | apply below_drew1 | refine below_set ?_ (IsS56.ge HI291.out) | refine below_set ?_ GE296.out | refine below_set ?_ GE311.out | refine below_set ?_ GE312.out) | exact HB.out)⟩⟩
    case rest =>
      clear HC9
      try clear c1
      try clear c2
      try clear p2
      try clear c3
      try clear c4
      try clear c5
      try clear p6
      try clear c8
      try clear c9
      try clear c10
      try clear c11
      try clear c12
      try clear c14
      try clear c21
      try clear c23
      try clear c24
      try clear c25
      try clear c28
      try clear c29
      try clear c31
      try clear c31b0
      try clear c31b1
      try clear c32
      try clear c32b0
      try clear c32b1
      try clear c32b2
      try clear c33
      try clear c33b0
      try clear c34
      try clear c35
      try clear c36
      try clear c38
      try clear c39
      try clear c41
      try clear c42
      try clear c43
      try clear c45
      try clear c46
      try clear c48
      try clear c49
      try clear c50
      try clear hcz15_0
      try clear hcz15_1
      try clear hcz15_2
      try clear hcz18_0
      try clear hcz18_1
      try clear hcz18_2
      try clear hcz26_0
      try clear hcz26_1
      try clear hcz30_0
      try clear hcz30_1
      try clear hcz30_2
      try clear hcz37_0
      try clear hcz37_1
      try clear hcz40_0
      try clear hcz40_1
      try clear hcz40_2
      try clear hcz44_0
      try clear hcz44_1
      try clear hcz47_0
      try clear hcz47_1
      try clear hcz47_2
      try clear hcz51_0
      try clear hcz51_1
      try clear hfz15_0
      try clear hfz15_1
      try clear hfz15_2
      try clear hfz18_0
      try clear hfz18_1
      try clear hfz18_2
      try clear hfz26_0
      try clear hfz26_1
      try clear hfz30_0
      try clear hfz30_1
      try clear hfz30_2
      try clear hfz37_0
      try clear hfz37_1
      try clear hfz40_0
      try clear hfz40_1
      try clear hfz40_2
      try clear hfz44_0
      try clear hfz44_1
      try clear hfz47_0
      try clear hfz47_1
      try clear hfz47_2
      try clear hfz51_0
      try clear hfz51_1
      obtain ⟨kq, x49_8, rfl, HA, HJ8, HO_5, HO_312001, BK296, BK311, BK312, HB⟩ := hcut
      cases kq with
      | zero => exact absurd HA.out (by simp [soundservicelaw08_LimiterHolds.j0])
      | succ kj8 =>
        have H := HA.out
        clear HA
        simp only [soundservicelaw08_LimiterHolds.j0] at H
        by_cases c52 : x49_8 = true
        · subst c52
          have H1 : (some false) = some r := by rw [if_pos rfl] at H; exact H
          clear H
          have H := H1
          clear H1
          exact absurd (H.trans (congrArg some HR_.out)) (by simp)
        · replace c52 := Bool.eq_false_iff.mpr c52
          subst c52
          have H1 : (soundservicelaw08_LimiterHolds.l0 kj8 t299 t304 (t304.length : Int) 0 t292 t293 t294) = some r := by rw [if_neg (show ¬ (false = true) by decide)] at H; exact H
          clear H
          have H := H1
          clear H1
          have H' := Aside0.mk H
          clear H
          have hnb53 := NB311_296.out
          have hnc53 := NB296_311.out
          have hnb54 := NB311_312.out
          have hnc54 := NB312_311.out
          have hcz55_0 : wc.cell? ⟨gb311, 0, none⟩ = some (.int .i64 t303) := (blk_cell BK311.out 0).trans rfl
          have hcz55_1 : wc.cell? ⟨gb311, 1, none⟩ = some (.slice Ao27 t304.length co27) := (blk_cell BK311.out 1).trans rfl
          have hfz55_0 := blk_frozen BK311.out 0
          have hfz55_1 := blk_frozen BK311.out 1
          go_wp2
          go_loopg [53] kj8 (fun kq v53 w' => ∃ (x53_2 : Int), v53 = .int .i64 x53_2 ∧ Aside0 (soundservicelaw08_LimiterHolds.l0 kq t299 t304 (t304.length : Int) x53_2 t292 t293 t294 = some r) ∧ Aside0 (kq ≤ kj8) ∧ Aside0 (Kd.R (Kd.int .i64) 2 w' w.heap.size (fun _ => True) (.slice Ao19 t299.length co19) t299) ∧ Aside0 (Kd.R (Kd.int .i32) 21 w' w.heap.size (fun _ => True) (.slice Ao27 t304.length co27) t304) ∧ Aside0 (Kd.R (Kd.int .i32) 21 w' w.heap.size (fun _ => True) (.slice Ao27 t304.length co27) t304) ∧ Aside0 (w'.heap[gb296]? = some (.cells #[.int .i64 t292, .int .i64 t293, .int .i64 t294] 23 (0, 0))) ∧ Aside0 (w'.heap[gb311]? = some (.cells #[.int .i64 t303, (.slice Ao27 t304.length co27)] 36 (0, 0))) ∧ Aside0 (w'.heap[gb312]? = some (.cells #[.int .i64 t307, .int .i64 t308, .int .i64 t309] 23 (0, 0))) ∧ Aside0 (Below w.heap.size w w'))
          case atStart => exact ⟨(0), (by first | rfl | (simp; done) | (simp [*]; done)), H', ⟨Nat.le_refl _⟩, ⟨by (with_reducible repeat (first | apply Kd.R_alloc | apply Kd.R_drewN | apply Kd.R_drew)); exact HO_5.out⟩, ⟨by (with_reducible repeat (first | apply Kd.R_alloc | apply Kd.R_drewN | apply Kd.R_drew)); exact HO_312001.out⟩, ⟨by (with_reducible repeat (first | apply Kd.R_alloc | apply Kd.R_drewN | apply Kd.R_drew)); exact HO_312001.out⟩, ⟨by (with_reducible repeat (first | refine blk_drewN ?_ _ | refine blk_drew ?_ | refine blk_alloc ?_ _)); exact BK296.out⟩, ⟨by (with_reducible repeat (first | refine blk_drewN ?_ _ | refine blk_drew ?_ | refine blk_alloc ?_ _)); exact BK311.out⟩, ⟨by (with_reducible repeat (first | refine blk_drewN ?_ _ | refine blk_drew ?_ | refine blk_alloc ?_ _)); exact BK312.out⟩, ⟨by repeat (first | (with_reducible first | exact HB.out | apply below_alloc | apply pw_below_drewN | apply below_drew1 | refine below_set ?_ GE296.out | refine below_set ?_ GE311.out | refine below_set ?_ GE312.out) | exact HB.out)⟩⟩
          case round =>
            clear H'
            try clear c1
            try clear c2
            try clear p2
            try clear c3
            try clear c4
            try clear c5
            try clear p6
            try clear c8
            try clear c9
            try clear c10
            try clear c11
            try clear c12
            try clear c14
            try clear c21
            try clear c23
            try clear c24
            try clear c25
            try clear c28
            try clear c29
            try clear c31
            try clear c31b0
            try clear c31b1
            try clear c32
            try clear c32b0
            try clear c32b1
            try clear c32b2
            try clear c33
            try clear c33b0
            try clear c34
            try clear c35
            try clear c36
            try clear c38
            try clear c39
            try clear c41
            try clear c42
            try clear c43
            try clear c45
            try clear c46
            try clear c48
            try clear c49
            try clear c50
            try clear c52
            try clear c53
            try clear c54
            try clear hcz15_0
            try clear hcz15_1
            try clear hcz15_2
            try clear hcz18_0
            try clear hcz18_1
            try clear hcz18_2
            try clear hcz26_0
            try clear hcz26_1
            try clear hcz30_0
            try clear hcz30_1
            try clear hcz30_2
            try clear hcz37_0
            try clear hcz37_1
            try clear hcz40_0
            try clear hcz40_1
            try clear hcz40_2
            try clear hcz44_0
            try clear hcz44_1
            try clear hcz47_0
            try clear hcz47_1
            try clear hcz47_2
            try clear hcz51_0
            try clear hcz51_1
            try clear hcz55_0
            try clear hcz55_1
            try clear hfz15_0
            try clear hfz15_1
            try clear hfz15_2
            try clear hfz18_0
            try clear hfz18_1
            try clear hfz18_2
            try clear hfz26_0
            try clear hfz26_1
            try clear hfz30_0
            try clear hfz30_1
            try clear hfz30_2
            try clear hfz37_0
            try clear hfz37_1
            try clear hfz40_0
            try clear hfz40_1
            try clear hfz40_2
            try clear hfz44_0
            try clear hfz44_1
            try clear hfz47_0
            try clear hfz47_1
            try clear hfz47_2
            try clear hfz51_0
            try clear hfz51_1
            try clear hfz55_0
            try clear hfz55_1
            try clear p2
            try clear p6
            obtain ⟨x53_2, rfl, HA, HK2, HO_5, HO_51, HO_312001, BK296, BK311, BK312, HB⟩ := hrel
            cases gk with
            | zero => exact absurd HA.out (by simp [soundservicelaw08_LimiterHolds.l0])
            | succ k2 =>
              have H := HA.out
              clear HA
              simp only [soundservicelaw08_LimiterHolds.l0] at H
              by_cases c56 : x53_2 < (t304.length : Int)
              · rw [if_pos c56] at H
                have c56b0 : decide (x53_2 < (t304.length : Int)) = true := decide_eq_true c56
                clear c56
                by_cases c57 : 0 ≤ x53_2
                · rw [if_pos c57] at H
                  have c57b0 : decide (0 ≤ x53_2) = true := decide_eq_true c57
                  clear c57
                  by_cases c58 : x53_2 < (t304.length : Int)
                  · rw [if_pos c58] at H
                    have c58b0 : decide (x53_2 < (t304.length : Int)) = true := decide_eq_true c58
                    clear c58
                    by_cases c59 : (wrap64 (rd t304 x53_2)) > t292
                    · rw [if_pos c59] at H
                      have c59b0 : decide (t292 < (wrap64 (rd t304 x53_2))) = true := decide_eq_true c59
                      clear c59
                      exact absurd (H.trans (congrArg some HR_.out)) (by simp)
                    · rw [if_neg c59] at H
                      have c59b0 : decide (t292 < (wrap64 (rd t304 x53_2))) = false := decide_eq_false c59
                      clear c59
                      by_cases c60 : (wrap64 (-(wrap64 (rd t304 x53_2)))) > t292
                      · rw [if_pos c60] at H
                        have c60b0 : decide (t292 < (wrap64 (-(wrap64 (rd t304 x53_2))))) = true := decide_eq_true c60
                        clear c60
                        exact absurd (H.trans (congrArg some HR_.out)) (by simp)
                      · rw [if_neg c60] at H
                        have c60b0 : decide (t292 < (wrap64 (-(wrap64 (rd t304 x53_2))))) = false := decide_eq_false c60
                        clear c60
                        by_cases c61 : (wrap64 (rd t304 x53_2)) > 0
                        · rw [if_pos c61] at H
                          have c61b0 : decide (0 < (wrap64 (rd t304 x53_2))) = true := decide_eq_true c61
                          clear c61
                          by_cases c62 : x53_2 < (t299.length : Int)
                          · rw [if_pos c62] at H
                            have c62b0 : decide (x53_2 < (t299.length : Int)) = true := decide_eq_true c62
                            clear c62
                            by_cases c63 : (rd t299 x53_2) < (wrap64 (rd t304 x53_2))
                            · rw [if_pos c63] at H
                              have c63b0 : decide ((rd t299 x53_2) < (wrap64 (rd t304 x53_2))) = true := decide_eq_true c63
                              clear c63
                              exact absurd (H.trans (congrArg some HR_.out)) (by simp)
                            · rw [if_neg c63] at H
                              have c63b0 : decide ((rd t299 x53_2) < (wrap64 (rd t304 x53_2))) = false := decide_eq_false c63
                              clear c63
                              by_cases c64 : (wrap64 (rd t304 x53_2)) < 0
                              · rw [if_pos c64] at H
                                have c64b0 : decide ((wrap64 (rd t304 x53_2)) < 0) = true := decide_eq_true c64
                                clear c64
                                by_cases c65 : (rd t299 x53_2) > (wrap64 (rd t304 x53_2))
                                · rw [if_pos c65] at H
                                  have c65b0 : decide ((wrap64 (rd t304 x53_2)) < (rd t299 x53_2)) = true := decide_eq_true c65
                                  clear c65
                                  exact absurd (H.trans (congrArg some HR_.out)) (by simp)
                                · rw [if_neg c65] at H
                                  have c65b0 : decide ((wrap64 (rd t304 x53_2)) < (rd t299 x53_2)) = false := decide_eq_false c65
                                  clear c65
                                  have H' := Aside0.mk H
                                  clear H
                                  have p313 : 0 ≤ (x53_2 : Int) := of_decide_eq_true (by first | (with_reducible assumption) | assumption)
                                  have q313 : x53_2 < (t304.length : Int) := of_decide_eq_true (by first | (with_reducible assumption) | assumption)
                                  obtain ⟨ad313, e313, hx313_0⟩ := Kd.at_int (Kd.R_reads' HO_51.out).2.2 x53_2 p313 q313
                                  cases e313
                                  replace p313 := eq_true p313
                                  replace q313 := eq_true q313
                                  have hnb66 := NB296_311.out
                                  have hnc66 := NB311_296.out
                                  have hnb67 := NB296_312.out
                                  have hnc67 := NB312_296.out
                                  have hcz68_0 : wr.cell? ⟨gb296, 0, none⟩ = some (.int .i64 t292) := (blk_cell BK296.out 0).trans rfl
                                  have hcz68_1 : wr.cell? ⟨gb296, 1, none⟩ = some (.int .i64 t293) := (blk_cell BK296.out 1).trans rfl
                                  have hcz68_2 : wr.cell? ⟨gb296, 2, none⟩ = some (.int .i64 t294) := (blk_cell BK296.out 2).trans rfl
                                  have hfz68_0 := blk_frozen BK296.out 0
                                  have hfz68_1 := blk_frozen BK296.out 1
                                  have hfz68_2 := blk_frozen BK296.out 2
                                  have p314 : 0 ≤ (x53_2 : Int) := of_decide_eq_true (by first | (with_reducible assumption) | assumption)
                                  have q314 : x53_2 < (t299.length : Int) := of_decide_eq_true (by first | (with_reducible assumption) | assumption)
                                  obtain ⟨ad314, e314, hx314_0⟩ := Kd.at_int (Kd.R_reads' HO_5.out).2.2 x53_2 p314 q314
                                  cases e314
                                  replace p314 := eq_true p314
                                  replace q314 := eq_true q314
                                  have p315 : 0 ≤ (x53_2 : Int) := of_decide_eq_true (by first | (with_reducible assumption) | assumption)
                                  have q315 : x53_2 < (t299.length : Int) := of_decide_eq_true (by first | (with_reducible assumption) | assumption)
                                  obtain ⟨ad315, e315, hx315_0⟩ := Kd.at_int (Kd.R_reads' HO_5.out).2.2 x53_2 p315 q315
                                  obtain rfl : ad314 = ad315 := (by injection e315)
                                  replace p315 := eq_true p315
                                  replace q315 := eq_true q315
                                  go_wp2
                                  go_roundg k2
                                  case measure => have := HJ8.out; have := HK2.out; omega
                                  case rel => exact ⟨(wrap64 (x53_2 + 1)), (by first | rfl | (simp; done) | (simp [*]; done)), H', ⟨by have := HJ8.out; have := HK2.out; omega⟩, ⟨by (with_reducible repeat (first | apply Kd.R_alloc | apply Kd.R_drewN | apply Kd.R_drew)); exact HO_5.out⟩, ⟨by (with_reducible repeat (first | apply Kd.R_alloc | apply Kd.R_drewN | apply Kd.R_drew)); exact HO_51.out⟩, ⟨by (with_reducible repeat (first | apply Kd.R_alloc | apply Kd.R_drewN | apply Kd.R_drew)); exact HO_312001.out⟩, ⟨by (with_reducible repeat (first | refine blk_drewN ?_ _ | refine blk_drew ?_ | refine blk_alloc ?_ _)); exact BK296.out⟩, ⟨by (with_reducible repeat (first | refine blk_drewN ?_ _ | refine blk_drew ?_ | refine blk_alloc ?_ _)); exact BK311.out⟩, ⟨by (with_reducible repeat (first | refine blk_drewN ?_ _ | refine blk_drew ?_ | refine blk_alloc ?_ _)); exact BK312.out⟩, ⟨by repeat (first | (with_reducible first | exact HB.out | apply below_alloc | apply pw_below_drewN | apply below_drew1 | refine below_set ?_ GE296.out | refine below_set ?_ GE311.out | refine below_set ?_ GE312.out) | exact HB.out)⟩⟩
                              · rw [if_neg c64] at H
                                have c64b0 : decide ((wrap64 (rd t304 x53_2)) < 0) = false := decide_eq_false c64
                                clear c64
                                have H' := Aside0.mk H
                                clear H
                                have p313 : 0 ≤ (x53_2 : Int) := of_decide_eq_true (by first | (with_reducible assumption) | assumption)
                                have q313 : x53_2 < (t304.length : Int) := of_decide_eq_true (by first | (with_reducible assumption) | assumption)
                                obtain ⟨ad313, e313, hx313_0⟩ := Kd.at_int (Kd.R_reads' HO_51.out).2.2 x53_2 p313 q313
                                cases e313
                                replace p313 := eq_true p313
                                replace q313 := eq_true q313
                                have hnb69 := NB296_311.out
                                have hnc69 := NB311_296.out
                                have hnb70 := NB296_312.out
                                have hnc70 := NB312_296.out
                                have hcz71_0 : wr.cell? ⟨gb296, 0, none⟩ = some (.int .i64 t292) := (blk_cell BK296.out 0).trans rfl
                                have hcz71_1 : wr.cell? ⟨gb296, 1, none⟩ = some (.int .i64 t293) := (blk_cell BK296.out 1).trans rfl
                                have hcz71_2 : wr.cell? ⟨gb296, 2, none⟩ = some (.int .i64 t294) := (blk_cell BK296.out 2).trans rfl
                                have hfz71_0 := blk_frozen BK296.out 0
                                have hfz71_1 := blk_frozen BK296.out 1
                                have hfz71_2 := blk_frozen BK296.out 2
                                have p314 : 0 ≤ (x53_2 : Int) := of_decide_eq_true (by first | (with_reducible assumption) | assumption)
                                have q314 : x53_2 < (t299.length : Int) := of_decide_eq_true (by first | (with_reducible assumption) | assumption)
                                obtain ⟨ad314, e314, hx314_0⟩ := Kd.at_int (Kd.R_reads' HO_5.out).2.2 x53_2 p314 q314
                                cases e314
                                replace p314 := eq_true p314
                                replace q314 := eq_true q314
                                go_wp2
                                go_roundg k2
                                case measure => have := HJ8.out; have := HK2.out; omega
                                case rel => exact ⟨(wrap64 (x53_2 + 1)), (by first | rfl | (simp; done) | (simp [*]; done)), H', ⟨by have := HJ8.out; have := HK2.out; omega⟩, ⟨by (with_reducible repeat (first | apply Kd.R_alloc | apply Kd.R_drewN | apply Kd.R_drew)); exact HO_5.out⟩, ⟨by (with_reducible repeat (first | apply Kd.R_alloc | apply Kd.R_drewN | apply Kd.R_drew)); exact HO_51.out⟩, ⟨by (with_reducible repeat (first | apply Kd.R_alloc | apply Kd.R_drewN | apply Kd.R_drew)); exact HO_312001.out⟩, ⟨by (with_reducible repeat (first | refine blk_drewN ?_ _ | refine blk_drew ?_ | refine blk_alloc ?_ _)); exact BK296.out⟩, ⟨by (with_reducible repeat (first | refine blk_drewN ?_ _ | refine blk_drew ?_ | refine blk_alloc ?_ _)); exact BK311.out⟩, ⟨by (with_reducible repeat (first | refine blk_drewN ?_ _ | refine blk_drew ?_ | refine blk_alloc ?_ _)); exact BK312.out⟩, ⟨by repeat (first | (with_reducible first | exact HB.out | apply below_alloc | apply pw_below_drewN | apply below_drew1 | refine below_set ?_ GE296.out | refine below_set ?_ GE311.out | refine below_set ?_ GE312.out) | exact HB.out)⟩⟩
                          · rw [if_neg c62] at H
                            exact absurd H (by simp)
                        · rw [if_neg c61] at H
                          have c61b0 : decide (0 < (wrap64 (rd t304 x53_2))) = false := decide_eq_false c61
                          clear c61
                          by_cases c72 : (wrap64 (rd t304 x53_2)) < 0
                          · rw [if_pos c72] at H
                            have c72b0 : decide ((wrap64 (rd t304 x53_2)) < 0) = true := decide_eq_true c72
                            clear c72
                            by_cases c73 : x53_2 < (t299.length : Int)
                            · rw [if_pos c73] at H
                              have c73b0 : decide (x53_2 < (t299.length : Int)) = true := decide_eq_true c73
                              clear c73
                              by_cases c74 : (rd t299 x53_2) > (wrap64 (rd t304 x53_2))
                              · rw [if_pos c74] at H
                                have c74b0 : decide ((wrap64 (rd t304 x53_2)) < (rd t299 x53_2)) = true := decide_eq_true c74
                                clear c74
                                exact absurd (H.trans (congrArg some HR_.out)) (by simp)
                              · rw [if_neg c74] at H
                                have c74b0 : decide ((wrap64 (rd t304 x53_2)) < (rd t299 x53_2)) = false := decide_eq_false c74
                                clear c74
                                have H' := Aside0.mk H
                                clear H
                                have p313 : 0 ≤ (x53_2 : Int) := of_decide_eq_true (by first | (with_reducible assumption) | assumption)
                                have q313 : x53_2 < (t304.length : Int) := of_decide_eq_true (by first | (with_reducible assumption) | assumption)
                                obtain ⟨ad313, e313, hx313_0⟩ := Kd.at_int (Kd.R_reads' HO_51.out).2.2 x53_2 p313 q313
                                cases e313
                                replace p313 := eq_true p313
                                replace q313 := eq_true q313
                                have hnb75 := NB296_311.out
                                have hnc75 := NB311_296.out
                                have hnb76 := NB296_312.out
                                have hnc76 := NB312_296.out
                                have hcz77_0 : wr.cell? ⟨gb296, 0, none⟩ = some (.int .i64 t292) := (blk_cell BK296.out 0).trans rfl
                                have hcz77_1 : wr.cell? ⟨gb296, 1, none⟩ = some (.int .i64 t293) := (blk_cell BK296.out 1).trans rfl
                                have hcz77_2 : wr.cell? ⟨gb296, 2, none⟩ = some (.int .i64 t294) := (blk_cell BK296.out 2).trans rfl
                                have hfz77_0 := blk_frozen BK296.out 0
                                have hfz77_1 := blk_frozen BK296.out 1
                                have hfz77_2 := blk_frozen BK296.out 2
                                have p316 : 0 ≤ (x53_2 : Int) := of_decide_eq_true (by first | (with_reducible assumption) | assumption)
                                have q316 : x53_2 < (t299.length : Int) := of_decide_eq_true (by first | (with_reducible assumption) | assumption)
                                obtain ⟨ad316, e316, hx316_0⟩ := Kd.at_int (Kd.R_reads' HO_5.out).2.2 x53_2 p316 q316
                                cases e316
                                replace p316 := eq_true p316
                                replace q316 := eq_true q316
                                go_wp2
                                go_roundg k2
                                case measure => have := HJ8.out; have := HK2.out; omega
                                case rel => exact ⟨(wrap64 (x53_2 + 1)), (by first | rfl | (simp; done) | (simp [*]; done)), H', ⟨by have := HJ8.out; have := HK2.out; omega⟩, ⟨by (with_reducible repeat (first | apply Kd.R_alloc | apply Kd.R_drewN | apply Kd.R_drew)); exact HO_5.out⟩, ⟨by (with_reducible repeat (first | apply Kd.R_alloc | apply Kd.R_drewN | apply Kd.R_drew)); exact HO_51.out⟩, ⟨by (with_reducible repeat (first | apply Kd.R_alloc | apply Kd.R_drewN | apply Kd.R_drew)); exact HO_312001.out⟩, ⟨by (with_reducible repeat (first | refine blk_drewN ?_ _ | refine blk_drew ?_ | refine blk_alloc ?_ _)); exact BK296.out⟩, ⟨by (with_reducible repeat (first | refine blk_drewN ?_ _ | refine blk_drew ?_ | refine blk_alloc ?_ _)); exact BK311.out⟩, ⟨by (with_reducible repeat (first | refine blk_drewN ?_ _ | refine blk_drew ?_ | refine blk_alloc ?_ _)); exact BK312.out⟩, ⟨by repeat (first | (with_reducible first | exact HB.out | apply below_alloc | apply pw_below_drewN | apply below_drew1 | refine below_set ?_ GE296.out | refine below_set ?_ GE311.out | refine below_set ?_ GE312.out) | exact HB.out)⟩⟩
                            · rw [if_neg c73] at H
                              exact absurd H (by simp)
                          · rw [if_neg c72] at H
                            have c72b0 : decide ((wrap64 (rd t304 x53_2)) < 0) = false := decide_eq_false c72
                            clear c72
                            have H' := Aside0.mk H
                            clear H
                            have p313 : 0 ≤ (x53_2 : Int) := of_decide_eq_true (by first | (with_reducible assumption) | assumption)
                            have q313 : x53_2 < (t304.length : Int) := of_decide_eq_true (by first | (with_reducible assumption) | assumption)
                            obtain ⟨ad313, e313, hx313_0⟩ := Kd.at_int (Kd.R_reads' HO_51.out).2.2 x53_2 p313 q313
                            cases e313
                            replace p313 := eq_true p313
                            replace q313 := eq_true q313
                            have hnb78 := NB296_311.out
                            have hnc78 := NB311_296.out
                            have hnb79 := NB296_312.out
                            have hnc79 := NB312_296.out
                            have hcz80_0 : wr.cell? ⟨gb296, 0, none⟩ = some (.int .i64 t292) := (blk_cell BK296.out 0).trans rfl
                            have hcz80_1 : wr.cell? ⟨gb296, 1, none⟩ = some (.int .i64 t293) := (blk_cell BK296.out 1).trans rfl
                            have hcz80_2 : wr.cell? ⟨gb296, 2, none⟩ = some (.int .i64 t294) := (blk_cell BK296.out 2).trans rfl
                            have hfz80_0 := blk_frozen BK296.out 0
                            have hfz80_1 := blk_frozen BK296.out 1
                            have hfz80_2 := blk_frozen BK296.out 2
                            go_wp2
                            go_roundg k2
                            case measure => have := HJ8.out; have := HK2.out; omega
                            case rel => exact ⟨(wrap64 (x53_2 + 1)), (by first | rfl | (simp; done) | (simp [*]; done)), H', ⟨by have := HJ8.out; have := HK2.out; omega⟩, ⟨by (with_reducible repeat (first | apply Kd.R_alloc | apply Kd.R_drewN | apply Kd.R_drew)); exact HO_5.out⟩, ⟨by (with_reducible repeat (first | apply Kd.R_alloc | apply Kd.R_drewN | apply Kd.R_drew)); exact HO_51.out⟩, ⟨by (with_reducible repeat (first | apply Kd.R_alloc | apply Kd.R_drewN | apply Kd.R_drew)); exact HO_312001.out⟩, ⟨by (with_reducible repeat (first | refine blk_drewN ?_ _ | refine blk_drew ?_ | refine blk_alloc ?_ _)); exact BK296.out⟩, ⟨by (with_reducible repeat (first | refine blk_drewN ?_ _ | refine blk_drew ?_ | refine blk_alloc ?_ _)); exact BK311.out⟩, ⟨by (with_reducible repeat (first | refine blk_drewN ?_ _ | refine blk_drew ?_ | refine blk_alloc ?_ _)); exact BK312.out⟩, ⟨by repeat (first | (with_reducible first | exact HB.out | apply below_alloc | apply pw_below_drewN | apply below_drew1 | refine below_set ?_ GE296.out | refine below_set ?_ GE311.out | refine below_set ?_ GE312.out) | exact HB.out)⟩⟩
                  · rw [if_neg c58] at H
                    exact absurd H (by simp)
                · rw [if_neg c57] at H
                  exact absurd H (by simp)
              · rw [if_neg c56] at H
                have c56b0 : decide (x53_2 < (t304.length : Int)) = false := decide_eq_false c56
                clear c56
                obtain rfl := Option.some.inj H
                go_wp2
                go_ret
                exact ⟨by first | rfl | (simp [errW_none, errW_some] <;> rfl) | (simp [*, errW_none, errW_some] <;> rfl), by repeat (first | (with_reducible first | exact HB.out | apply below_alloc | apply pw_below_drewN | apply below_drew1 | refine below_set ?_ GE296.out | refine below_set ?_ GE311.out | refine below_set ?_ GE312.out) | exact HB.out)⟩
  · replace c3 := Bool.eq_false_iff.mpr c3
    subst c3
    have H1 : (some false) = some r := by rw [if_neg (show ¬ (false = true) by decide)] at H; exact H
    clear H
    have H := H1
    clear H1
    exact absurd (H.trans (congrArg some HR_.out)) (by simp)

/-- THE ONE PURE STATEMENT of soundservicelaw08_LimiterHolds. -/
def soundservicelaw08_LimiterHolds.Pure : Prop := ∀ (l0 : List Int), l0.length ≤ maxLen → l0.length * 1 ≤ 140737488351232 → (∀ x ∈ l0, (Lit.int .u8 x).wf = true) → ∃ k, soundservicelaw08_LimiterHolds.f k l0 = some true
theorem soundservicelaw08_LimiterHolds.walk (P : soundservicelaw08_LimiterHolds.Pure) (a0 : Option Addr) (len0 cap0 : Nat) (z0 : List Int) (w : World) (w0 : (a0 = none ∧ len0 = 0 ∧ cap0 = 0 ∧ z0 = []) ∨ ∃ x, a0 = some x ∧ len0 ≤ cap0 ∧ cap0 ≤ maxLen ∧ z0.length = cap0 ∧ (∀ i, i < z0.length → w.cell? (x.add i) = some (.int .u8 (z0.getD i 0))) ∧ ∀ n ∈ z0, (Lit.int .u8 n).wf = true) (y0 : len0 * 1 ≤ 140737488351232) :
    Calls Try.prog 4 #[.slice a0 len0 cap0] w fun e w' => e = .returned (.bool true) ∧ Below w.heap.size w w' := by
  obtain ⟨l0, rfl, hr0, hm0, hw0, hc0⟩ := ReadsInt.ofRowC w0
  obtain ⟨k, h⟩ := P l0 hm0 y0 hw0
  refine (soundservicelaw08_LimiterHolds.calls k _ _ l0 true w (Kd.C_of_reads (d := (0 : Int)) (h1 := fun _ => rfl) hr0) hc0 rfl h).mono ?_
  rintro e w' ⟨rfl, hd⟩
  exact ⟨rfl, hd⟩

end Go.Proofs.Ytempbcblakkjmaa.Q
