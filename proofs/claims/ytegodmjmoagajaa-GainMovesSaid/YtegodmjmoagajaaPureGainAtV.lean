/- Plain law of gain.At: the gain of a frame. -/
import Derived.Test.YtegodmjmoagajaaPureGainL
import Derived.Test.YtegodmjmoagajaaQM1
set_option linter.unusedVariables false
set_option linter.unusedSimpArgs false
namespace Go.Proofs.Ytegodmjmoagajaa.GainL
open Go.RowKit Go.Proofs.Ytegodmjmoagajaa.QM Go.Proofs.YtegodmjmoagajaaW.PrintWords Go.Proofs.YtegodmjmoagajaaW.PrintLast

theorem at_val (F T N A i : Int) : gain_At.f F T N A i = some (if RampOk F T N A ∧ 0 ≤ i then gainAt F T N A i else 0) := by
  unfold gain_At.f
  rw [valid_val]
  simp only [Option.bind_some]
  by_cases h : RampOk F T N A
  · rw [if_pos (by simpa using h)]
    by_cases hi : i < 0
    · rw [if_pos hi, if_neg (by omega)]
    · rw [if_neg hi, slope_val h (by omega), if_pos ⟨h, by omega⟩]
      rfl
  · rw [if_neg (by simpa using h), if_neg (fun h2 => h h2.1)]
end Go.Proofs.Ytegodmjmoagajaa.GainL
