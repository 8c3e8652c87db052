/- The statement GainMoves over its functions: a ramp moves in one direction only, from its beginning to its end, and a new target begins with the present gain. No condition. -/
import Derived.Test.YtegodmjmoagajaaPureDiceRamp
import Derived.Test.YtegodmjmoagajaaPureGainAtV
import Derived.Test.YtegodmjmoagajaaPureGainRet
import Derived.Test.YtegodmjmoagajaaQM4
set_option linter.unusedVariables false
namespace Go.Proofs.Ytegodmjmoagajaa.Pure
open Go.RowKit Go.Proofs.Ytegodmjmoagajaa.QM Go.Proofs.Ytegodmjmoagajaa.GainL Go.Proofs.Ytegodmjmoagajaa.DiceL Go.Proofs.YtegodmjmoagajaaW.PrintWords Go.Proofs.YtegodmjmoagajaaW.PrintLast

namespace GainMovesPure

theorem sane_true : soundservicelaw05_sane.f = some true := by decide +kernel
theorem core {F T N A K p n : Int} (hr : RampOk F T N A) (hK : 0 ≤ K) (p0 : 0 ≤ p) (p1 : p ≤ 65535) (n0 : 0 ≤ n) (n1 : n ≤ 65535) (k : Nat) :
    soundservicelaw05_GainMoves.j0 (k + 1) p n (gainAt F T N A K) (gainAt F T N A (K + 1)) 0 (mn F T) (mx F T) F T N A (gainAt F T N A 0) p n 0 = some true := by
  have hG := gainAt_gain hr (i := 0) (by omega)
  have hr2 : RampOk (gainAt F T N A 0) p n 0 := ⟨hG.1, hG.2, p0, by omega, n0, by omega, by omega, n0⟩
  have w1 : wrap64 n = n := w64 (by omega) (by omega)
  have w2 : wrap64 p = p := w64 (by omega) (by omega)
  have e1 : gain_At.f (gainAt F T N A 0) p n 0 n = some p := by
    rw [at_val, if_pos ⟨hr2, n0⟩, gainAt_end (by omega)]
  have e2 : n ≠ 0 → gain_At.f (gainAt F T N A 0) p n 0 0 = some (gainAt F T N A 0) := fun h => by
    rw [at_val, if_pos ⟨hr2, Int.le_refl 0⟩]
    have : gainAt (gainAt F T N A 0) p n 0 0 = gainAt F T N A 0 := by
      generalize gainAt F T N A 0 = G
      unfold gainAt
      rw [if_neg (by omega), Int.add_zero, Int.mul_zero, Int.zero_ediv, Int.add_zero]
    rw [this]
  have e3 : gain_At.f F T N A 0 = some (gainAt F T N A 0) := by rw [at_val, if_pos ⟨hr, Int.le_refl 0⟩]
  have q1 : some (p == p) = some true := congrArg some (by simp)
  have ht : (if n = 0 then ((gain_At.f (gainAt F T N A 0) p n 0 (wrap64 n)).bind fun t => some (t == wrap64 p)) else ((gain_At.f (gainAt F T N A 0) p n 0 0).bind fun t => ((gain_At.f F T N A 0).bind fun u => (if t = u then ((gain_At.f (gainAt F T N A 0) p n 0 (wrap64 n)).bind fun v => some (v == wrap64 p)) else some false)))) = some true := by
    rw [w1, w2, e1, e3]
    by_cases h : n = 0
    · rw [if_pos h, Option.bind_some]
      exact q1
    · rw [if_neg h, e2 h, Option.bind_some, Option.bind_some, if_pos rfl, Option.bind_some]
      exact q1
  have ha := gainAt_range hr hK
  have hlo : gainAt F T N A K ≥ mn F T := by
    unfold mn
    split <;> omega
  have hhi : gainAt F T N A K ≤ mx F T := by
    unfold mx
    split <;> omega
  have up := fun h : F ≤ T => gainAt_up hr hK (j := K + 1) (by omega) h
  have down := fun h : T ≤ F => gainAt_down hr hK (j := K + 1) (by omega) h
  clear e1 e2 e3 w1 w2 hG hr2 ha q1
  generalize gainAt F T N A 0 = G at *
  generalize gainAt F T N A K = a at *
  generalize gainAt F T N A (K + 1) = b at *
  rw [soundservicelaw05_GainMoves.j0, if_pos hlo, if_pos hhi]
  by_cases h1 : T = F
  · have h2 := down (by omega)
    rw [if_pos h1, if_pos (by rw [decide_eq_true (show T ≥ F by omega)]; rfl), if_neg (by omega), if_pos h2, if_pos rfl]
    exact ht
  · rw [if_neg h1]
    by_cases h3 : T > F
    · have h2 := up (by omega)
      rw [if_pos h2, if_pos (by rw [decide_eq_true (show T ≥ F by omega), decide_eq_true h3]; rfl), if_pos h3, if_pos rfl]
      exact ht
    · have h2 := down (by omega)
      by_cases h4 : b ≥ a
      · rw [if_pos h4, if_pos (by rw [decide_eq_false (show ¬ T ≥ F by omega), decide_eq_false h3]; rfl), if_neg h3, if_pos h2, if_pos rfl]
        exact ht
      · rw [if_neg h4, if_pos (by rw [decide_eq_false (show ¬ T ≥ F by omega)]; rfl), if_neg h3, if_pos h2, if_pos rfl]
        exact ht

end GainMovesPure

open GainMovesPure

/-- For all bytes and numbers. -/
theorem GainMoves : soundservicelaw05_GainMoves.Pure := by
  intro l i p n _ _ hw hi hp hn
  have i0 : 0 ≤ i ∧ i ≤ 255 := by
    have h := hi
    simp [Lit.wf] at h
    exact h
  have p0 : 0 ≤ p ∧ p ≤ 65535 := by
    have h := hp
    simp [Lit.wf] at h
    exact h
  have n0 : 0 ≤ n ∧ n ≤ 65535 := by
    have h := hn
    simp [Lit.wf] at h
    exact h
  obtain ⟨l1, e1, h1, _⟩ := new_spec (dz_of hw)
  obtain ⟨F, T, N, A, l2, e2, h2, hr, _⟩ := ramp_spec h1
  have hk0 : 0 ≤ Int.tmod i 16 ∧ Int.tmod i 16 ≤ 15 := by
    rw [Int.tmod_eq_emod_of_nonneg i0.1]
    omega
  have w1 : wrap64 (Int.tmod i 16) = Int.tmod i 16 := w64 (by omega) (by omega)
  obtain ⟨K, hKe⟩ : ∃ K, Int.tmod i 16 = K := ⟨_, rfl⟩
  rw [hKe] at hk0 w1
  have w2 : wrap64 (K + 1) = K + 1 := w64 (by omega) (by omega)
  have w3 : wrap64 p = p := w64 (by omega) (by omega)
  have w4 : wrap64 n = n := w64 (by omega) (by omega)
  have a1 : gain_At.f F T N A K = some (gainAt F T N A K) := by rw [at_val, if_pos ⟨hr, hk0.1⟩]
  have a2 : gain_At.f F T N A (K + 1) = some (gainAt F T N A (K + 1)) := by rw [at_val, if_pos ⟨hr, Int.le_add_one hk0.1⟩]
  have a3 : gain_Retarget.f F T N A p n = some (gainAt F T N A 0, p, n, 0, 0) := by
    rw [retarget_val, if_pos ⟨hr, p0.1, Int.le_trans p0.2 (by decide), n0.1, Int.le_trans n0.2 (by decide)⟩]
  refine ⟨1, ?_⟩
  unfold soundservicelaw05_GainMoves.f
  rw [sane_true, Option.bind_some, if_pos rfl, e1, Option.bind_some, e2, Option.bind_some]
  dsimp only
  rw [hKe, w1, a1, Option.bind_some, w2, a2, Option.bind_some, w3, w4, a3, Option.bind_some]
  exact core hr hk0.1 p0.1 p0.2 n0.1 n0.2 0

end Go.Proofs.Ytegodmjmoagajaa.Pure
