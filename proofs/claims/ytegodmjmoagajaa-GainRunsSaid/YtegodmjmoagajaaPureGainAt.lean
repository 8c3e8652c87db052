/- Plain laws of the reference's ramps: they are the program's. -/
import Derived.Test.YtegodmjmoagajaaPureGainL
import Derived.Test.YtegodmjmoagajaaQR6
set_option linter.unusedVariables false
set_option linter.unusedSimpArgs false
namespace Go.Proofs.Ytegodmjmoagajaa.GainL
open Go.RowKit Go.Proofs.Ytegodmjmoagajaa.QR Go.Proofs.YtegodmjmoagajaaW.PrintWords Go.Proofs.YtegodmjmoagajaaW.PrintLast

theorem refvalid_val (F T N A : Int) : soundserviceref05_Valid.f F T N A = some (decide (RampOk F T N A)) := by
  rw [← valid_val]
  rfl
theorem refis_val (g : Int) : soundserviceref05_gain.f g = some (decide (0 ≤ g ∧ g ≤ 262144)) := by
  rw [← is_val]
  rfl
theorem refat_step (F T N A i : Int) (k : Nat) : soundserviceref05_At.f (k + 1) F T N A i = some (if RampOk F T N A ∧ 0 ≤ i then gainAt F T N A i else 0) := by
  unfold soundserviceref05_At.f
  rw [refvalid_val, Option.bind_some]
  by_cases h : RampOk F T N A
  · rw [if_pos (by simpa using h)]
    by_cases hi : i < 0
    · rw [decide_eq_true hi, soundserviceref05_At.j0, if_pos rfl, if_neg (by omega)]
    · rw [decide_eq_false hi, soundserviceref05_At.j0, if_neg (by simp), if_pos (show RampOk F T N A ∧ 0 ≤ i from ⟨h, by omega⟩)]
      have h' := h
      obtain ⟨f0, f1, t0, t1, n0, n1, a0, a1⟩ := h'
      rw [w64 (s := N - A) (by omega) (by omega)]
      unfold gainAt
      by_cases hn : i ≥ N - A
      · rw [if_pos hn, if_pos (by omega)]
      · rw [if_neg hn, if_neg (show ¬ N - A ≤ i by omega), w64 (s := T - F) (by omega) (by omega), w64 (s := A + i) (by omega) (by omega)]
        have hp : -1099511627776 ≤ (T - F) * (A + i) ∧ (T - F) * (A + i) ≤ 1099511627776 := by
          have a : (T - F) * (A + i) ≤ 262144 * (A + i) := Int.mul_le_mul_of_nonneg_right (by omega) (by omega)
          have b : (-262144) * (A + i) ≤ (T - F) * (A + i) := Int.mul_le_mul_of_nonneg_right (by omega) (by omega)
          omega
        rw [w64 (s := (T - F) * (A + i)) (by omega) (by omega)]
        have hN : 0 < N := by omega
        have hf := floor_eq ((T - F) * (A + i)) N hN
        have hq := quo_range ((T - F) * (A + i)) N hN (b := 1099511627776) hp
        unfold soundserviceref05_floor.f
        rw [if_neg (show ¬ N = 0 by omega)]
        by_cases hm : Int.tmod ((T - F) * (A + i)) N < 0
        · rw [if_pos hm] at hf ⊢
          rw [w64 (s := Int.tdiv ((T - F) * (A + i)) N) (by omega) (by omega), w64 (s := Int.tdiv ((T - F) * (A + i)) N - 1) (by omega) (by omega), hf, Option.bind_some, w64 (by omega) (by omega)]
        · rw [if_neg hm] at hf ⊢
          rw [hf, w64 (s := (T - F) * (A + i) / N) (by omega) (by omega), Option.bind_some, w64 (by omega) (by omega)]
  · rw [if_neg (by simpa using h), soundserviceref05_At.j0, if_pos rfl, if_neg (fun h2 => h h2.1)]
theorem refat_ev (F T N A i : Int) : Ev (fun k => soundserviceref05_At.f k F T N A i) (if RampOk F T N A ∧ 0 ≤ i then gainAt F T N A i else 0) :=
  Ev.step (f := fun _ => some _) (fun k => refat_step F T N A i k) (Ev.now _)
end Go.Proofs.Ytegodmjmoagajaa.GainL
