/- The statement GainUnit over its printed functions: the gain 1 changes nothing, 0 gives silence, and a greater gain never gives a lesser positive sample. No condition. -/
import Derived.Test.YtegodmjmoagajaaPGainUnitx1
namespace Go.Proofs.Ytegodmjmoagajaa.Pure
open Go.RowKit Go.Proofs.Ytegodmjmoagajaa.PGainUnit Go.Proofs.YtegodmjmoagajaaW.PrintWords Go.Proofs.YtegodmjmoagajaaW.PrintLast

namespace GainUnitPure

theorem sane_true : soundservicelaw05_sane.f = some true := by decide +kernel

theorem wrap_id {s : Int} (h0 : -4611686018427387904 ≤ s) (h1 : s ≤ 4611686018427387904) : wrap64 s = s := by
  unfold wrap64
  omega

theorem sat_range (n : Int) : ∃ r, soundserviceref04_Sat.f n = some r ∧ -8388608 ≤ r ∧ r ≤ 8388607 := by
  refine ⟨_, rfl, ?_⟩
  unfold mx mn
  omega

/-- A sample with a gain, in plain numbers. -/
theorem apply_val (s g : Int) (h0 : -8388608 ≤ s) (h1 : s ≤ 8388607) (g0 : 0 ≤ g) (g1 : g ≤ 262144) :
    gain_Apply.f s g = some (mx (-8388608) (mn 8388607 ((s * g + 32768) / 65536))) := by
  have hb1 : s * g ≤ 8388608 * 262144 := by
    have a : s * g ≤ 8388608 * g := Int.mul_le_mul_of_nonneg_right (by omega) g0
    omega
  have hb0 : -(8388608 * 262144) ≤ s * g := by
    have a : (-8388608) * g ≤ s * g := Int.mul_le_mul_of_nonneg_right (by omega) g0
    omega
  unfold gain_Apply.f gain_is.f sample_Sat.f
  rw [if_neg (by omega), if_neg (by omega), if_pos (by omega), wrap_id (s := s) (by omega) (by omega), wrap_id (s := s * g) (by omega) (by omega), wrap_id (by omega) (by omega)]
  simp [g1]

theorem up (s g h : Int) (s0 : 0 ≤ s) (hg : g ≤ h) : mx (-8388608) (mn 8388607 ((s * g + 32768) / 65536)) ≤ mx (-8388608) (mn 8388607 ((s * h + 32768) / 65536)) := by
  have a : s * g ≤ s * h := Int.mul_le_mul_of_nonneg_left hg s0
  unfold mx mn
  omega

theorem down (s g h : Int) (s0 : s ≤ 0) (hg : g ≤ h) : mx (-8388608) (mn 8388607 ((s * h + 32768) / 65536)) ≤ mx (-8388608) (mn 8388607 ((s * g + 32768) / 65536)) := by
  have a : (-s) * g ≤ (-s) * h := Int.mul_le_mul_of_nonneg_left hg (by omega)
  rw [Int.neg_mul, Int.neg_mul] at a
  unfold mx mn
  omega

end GainUnitPure

open GainUnitPure

/-- For all numbers. -/
theorem GainUnit : soundservicelaw05_GainUnit.Pure := by
  intro a0 a1 a2 _ w1 w2
  have b1 : (0 : Int) ≤ a1 ∧ a1 ≤ 65535 := by
    simp [Lit.wf] at w1
    exact w1
  have b2 : (0 : Int) ≤ a2 ∧ a2 ≤ 65535 := by
    simp [Lit.wf] at w2
    exact w2
  obtain ⟨x, hx, x0, x1⟩ := sat_range (wrap64 a0)
  unfold soundservicelaw05_GainUnit.f
  rw [sane_true]
  simp only [Option.bind_some, if_true]
  rw [hx]
  simp only [Option.bind_some]
  rw [wrap_id (s := a1) (by omega) (by omega), wrap_id (s := a2) (by omega) (by omega), wrap_id (s := a1 + a2) (by omega) (by omega)]
  rw [apply_val x a1 x0 x1 (by omega) (by omega), apply_val x (a1 + a2) x0 x1 (by omega) (by omega), apply_val x 65536 x0 x1 (by omega) (by omega), apply_val x 0 x0 x1 (by omega) (by omega)]
  simp only [Option.bind_some]
  have e1 : mx (-8388608) (mn 8388607 ((x * 65536 + 32768) / 65536)) = x := by
    unfold mx mn
    omega
  have e0 : mx (-8388608) (mn 8388607 ((x * 0 + 32768) / 65536)) = 0 := by
    unfold mx mn
    omega
  rw [if_pos e1, if_pos e0]
  by_cases hn : x < 0
  · rw [if_pos hn, if_neg (by omega)]
    have := down x a1 (a1 + a2) (by omega) (by omega)
    simp [this]
  · rw [if_neg hn, if_pos (up x a1 (a1 + a2) (by omega) (by omega))]
    by_cases hp : x > 0
    · rw [if_pos hp]
    · rw [if_neg hp]
      have := down x a1 (a1 + a2) (by omega) (by omega)
      simp [this]

end Go.Proofs.Ytegodmjmoagajaa.Pure
