/- Plain law of a ramp's new target. -/
import Derived.Test.YtegodmjmoagajaaPureGainL
import Derived.Test.YtegodmjmoagajaaQM3
set_option linter.unusedVariables false
set_option linter.unusedSimpArgs false
namespace Go.Proofs.Ytegodmjmoagajaa.GainL
open Go.RowKit Go.Proofs.Ytegodmjmoagajaa.QM Go.Proofs.YtegodmjmoagajaaW.PrintWords Go.Proofs.YtegodmjmoagajaaW.PrintLast

/-- A new target. -/
theorem retarget_val (F T N A g n : Int) : gain_Retarget.f F T N A g n = some (if RampOk F T N A ∧ 0 ≤ g ∧ g ≤ 262144 ∧ 0 ≤ n ∧ n ≤ 4194304 then (gainAt F T N A 0, g, n, 0, 0) else (0, 0, 0, 0, 1)) := by
  unfold gain_Retarget.f
  rw [valid_val, Option.bind_some]
  by_cases hr : RampOk F T N A
  · rw [if_pos (by simpa using hr), is_val, Option.bind_some]
    by_cases ht : 0 ≤ g ∧ g ≤ 262144
    · rw [if_pos (by simpa using ht)]
      by_cases h1 : n < 0
      · rw [if_pos h1, if_neg (by omega)]
      · rw [if_neg h1]
        by_cases h2 : n > 4194304
        · rw [if_pos h2, if_neg (by omega)]
        · rw [if_neg h2, slope_val hr (by omega), Option.bind_some, if_pos ⟨hr, ht.1, ht.2, by omega, by omega⟩]
    · rw [if_neg (by simpa using ht), if_neg (fun h => ht ⟨h.2.1, h.2.2.1⟩)]
  · rw [if_neg (by simpa using hr), if_neg (fun h => hr h.1)]
end Go.Proofs.Ytegodmjmoagajaa.GainL
