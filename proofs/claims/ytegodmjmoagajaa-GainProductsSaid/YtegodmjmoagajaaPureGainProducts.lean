/- The statement GainProducts over its functions: two gains of at most 1 one after the other do what their product does, but for a little rounding; the order of a product does not matter. No condition. -/
import Derived.Test.YtegodmjmoagajaaPureGainL
set_option linter.unusedVariables false
namespace Go.Proofs.Ytegodmjmoagajaa.Pure
open Go.RowKit Go.Proofs.Ytegodmjmoagajaa.Q Go.Proofs.Ytegodmjmoagajaa.GainL Go.Proofs.YtegodmjmoagajaaW.PrintWords Go.Proofs.YtegodmjmoagajaaW.PrintLast

namespace GainProductsPure

theorem sane_true : soundservicelaw05_sane.f = some true := by decide +kernel

theorem sat_range (n : Int) : ∃ r, soundserviceref04_Sat.f n = some r ∧ -8388608 ≤ r ∧ r ≤ 8388607 := ⟨_, rfl, satV_range n⟩

theorem satV_id {n : Int} (h0 : -8388608 ≤ n) (h1 : n ≤ 8388607) : satV n = n := by
  unfold satV mx mn
  omega

theorem mul_val {a b : Int} (a0 : 0 ≤ a) (a1 : a ≤ 65535) (b0 : 0 ≤ b) (b1 : b ≤ 65535) : gain_Mul.f a b = some ((a * b + 32768) / 65536) ∧ 0 ≤ (a * b + 32768) / 65536 ∧ (a * b + 32768) / 65536 ≤ a := by
  have h0 : 0 ≤ a * b := Int.mul_nonneg a0 b0
  have h1 : a * b ≤ a * 65535 := Int.mul_le_mul_of_nonneg_left b1 a0
  refine ⟨?_, by omega, by omega⟩
  unfold gain_Mul.f
  rw [is_val, is_val]
  simp only [Option.bind_some]
  rw [if_pos (by simp; omega), if_pos (by simp; omega), w64 (s := a * b) (by omega) (by omega), w64 (by omega) (by omega)]
  unfold mn
  rw [if_pos (by omega)]

theorem applyV_val {x g : Int} (x0 : -8388608 ≤ x) (x1 : x ≤ 8388607) (g0 : 0 ≤ g) (g1 : g ≤ 65535) :
    applyV x g = (x * g + 32768) / 65536 ∧ -8388608 ≤ (x * g + 32768) / 65536 ∧ (x * g + 32768) / 65536 ≤ 8388607 := by
  have hlo : (-8388608) * g ≤ x * g := Int.mul_le_mul_of_nonneg_right (by omega) g0
  have hhi : x * g ≤ 8388607 * g := Int.mul_le_mul_of_nonneg_right (by omega) g0
  have h : -8388608 ≤ (x * g + 32768) / 65536 ∧ (x * g + 32768) / 65536 ≤ 8388607 := by omega
  refine ⟨?_, h⟩
  unfold applyV
  rw [if_pos ⟨by omega, by omega, by omega, by omega⟩, satV_id h.1 h.2]

/-- The rounding. -/
theorem near {x a b y m z w : Int} (x0 : -8388608 ≤ x) (x1 : x ≤ 8388607) (b0 : 0 ≤ b) (b1 : b ≤ 65535)
    (hy : y = (x * a + 32768) / 65536) (hm : m = (a * b + 32768) / 65536) (hz : z = (y * b + 32768) / 65536) (hw : w = (x * m + 32768) / 65536) : -66 ≤ z - w ∧ z - w ≤ 66 := by
  have y0 : 65536 * y ≤ x * a + 32768 := by omega
  have y1 : x * a + 32768 ≤ 65536 * y + 65535 := by omega
  have m0 : 65536 * m ≤ a * b + 32768 := by omega
  have m1 : a * b + 32768 ≤ 65536 * m + 65535 := by omega
  have q0 : (65536 * y) * b ≤ (x * a + 32768) * b := Int.mul_le_mul_of_nonneg_right y0 b0
  have q1 : (x * a + 32768) * b ≤ (65536 * y + 65535) * b := Int.mul_le_mul_of_nonneg_right y1 b0
  have e1 : (65536 * y) * b = 65536 * (y * b) := by rw [Int.mul_assoc]
  have e2 : (x * a + 32768) * b = x * (a * b) + 32768 * b := by rw [Int.add_mul, Int.mul_assoc]
  have e3 : (65536 * y + 65535) * b = 65536 * (y * b) + 65535 * b := by rw [Int.add_mul, Int.mul_assoc]
  have e4 : x * (65536 * m) = 65536 * (x * m) := by rw [← Int.mul_assoc, Int.mul_comm x 65536, Int.mul_assoc]
  have e5 : x * (a * b + 32768) = x * (a * b) + 32768 * x := by rw [Int.mul_add, Int.mul_comm x 32768]
  have e6 : x * (65536 * m + 65535) = 65536 * (x * m) + 65535 * x := by rw [Int.mul_add, e4, Int.mul_comm x 65535]
  rw [e1, e2] at q0
  rw [e2, e3] at q1
  by_cases hx : 0 ≤ x
  · have r0 : x * (65536 * m) ≤ x * (a * b + 32768) := Int.mul_le_mul_of_nonneg_left m0 hx
    have r1 : x * (a * b + 32768) ≤ x * (65536 * m + 65535) := Int.mul_le_mul_of_nonneg_left m1 hx
    rw [e4, e5] at r0
    rw [e5, e6] at r1
    omega
  · have r0 : x * (a * b + 32768) ≤ x * (65536 * m) := Int.mul_le_mul_of_nonpos_left (by omega) m0
    have r1 : x * (65536 * m + 65535) ≤ x * (a * b + 32768) := Int.mul_le_mul_of_nonpos_left (by omega) m1
    rw [e4, e5] at r0
    rw [e5, e6] at r1
    omega

end GainProductsPure

open GainProductsPure

/-- For all numbers. -/
theorem GainProducts : soundservicelaw05_GainProducts.Pure := by
  intro a0 a1 a2 _ w1 w2
  have b1 : (0 : Int) ≤ a1 ∧ a1 ≤ 65535 := by
    simp [Lit.wf] at w1
    exact w1
  have b2 : (0 : Int) ≤ a2 ∧ a2 ≤ 65535 := by
    simp [Lit.wf] at w2
    exact w2
  obtain ⟨x, hx, x0, x1⟩ := sat_range (wrap64 a0)
  unfold soundservicelaw05_GainProducts.f
  rw [sane_true]
  simp only [Option.bind_some, if_true]
  rw [hx]
  simp only [Option.bind_some]
  rw [w64 (s := a1) (by omega) (by omega), w64 (s := a2) (by omega) (by omega)]
  obtain ⟨hm, hm0, hm1⟩ := mul_val b1.1 b1.2 b2.1 b2.2
  obtain ⟨hy, hy0, hy1⟩ := applyV_val x0 x1 b1.1 b1.2
  obtain ⟨hz, hz0, hz1⟩ := applyV_val hy0 hy1 b2.1 b2.2
  obtain ⟨hw, hw0, hw1⟩ := applyV_val x0 x1 hm0 (by omega)
  have hn := near x0 x1 b2.1 b2.2 (a := a1) rfl rfl rfl rfl
  have hc : gain_Mul.f a2 a1 = gain_Mul.f a1 a2 := by rw [hm, (mul_val b2.1 b2.2 b1.1 b1.2).1, Int.mul_comm]
  rw [apply_val, hy]
  simp only [Option.bind_some]
  rw [apply_val, hz]
  simp only [Option.bind_some]
  rw [hc, hm]
  simp only [Option.bind_some]
  rw [apply_val, hw]
  simp only [Option.bind_some, if_true]
  have e : wrap32 ((((x * a1 + 32768) / 65536) * a2 + 32768) / 65536 - (x * ((a1 * a2 + 32768) / 65536) + 32768) / 65536) = (((x * a1 + 32768) / 65536) * a2 + 32768) / 65536 - (x * ((a1 * a2 + 32768) / 65536) + 32768) / 65536 := by
    unfold wrap32
    omega
  rw [e, if_pos (by omega), if_pos (by omega)]
  simp [hm1]

end Go.Proofs.Ytegodmjmoagajaa.Pure
