/- The statement GainRamps over its functions: which ramps are valid, their gains, and new targets, or the error, are the reference's. No condition. -/
import Derived.Test.YtegodmjmoagajaaPureGainRef
import Derived.Test.YtegodmjmoagajaaPureDiceRamp
import Derived.Test.YtegodmjmoagajaaQ5
set_option linter.unusedVariables false
namespace Go.Proofs.Ytegodmjmoagajaa.Pure
open Go.RowKit Go.Proofs.Ytegodmjmoagajaa.Q Go.Proofs.Ytegodmjmoagajaa.GainL Go.Proofs.Ytegodmjmoagajaa.DiceL Go.Proofs.YtegodmjmoagajaaW.PrintWords Go.Proofs.YtegodmjmoagajaaW.PrintLast

namespace GainRampsPure

theorem sane_true : soundservicelaw05_sane.f = some true := by decide +kernel

theorem inner (x2 x3 x4 : Int) (xs : List S35) (x26 x27 : Int) (F T N A : Int) (ys : List Int) (hl : ys.length ≤ 100)
    (hnext : Ev (fun k => soundservicelaw05_GainRamps.l0 k x2 x3 x4 xs x26 (wrap64 (x27 + 1))) true) (d : Nat) :
    ∀ i : Nat, i ≤ ys.length → ys.length - i = d → Ev (fun k => soundservicelaw05_GainRamps.l1 k x2 x3 x4 xs x26 x27 ys (ys.length : Int) (i : Int) F T N A) true := by
  induction d with
  | zero =>
    intro i hi hd
    obtain ⟨K, hK⟩ := hnext
    refine ⟨K + 2, fun k hk => ?_⟩
    obtain ⟨m, rfl⟩ : ∃ m, k = m + 2 := ⟨k - 2, by omega⟩
    have hn := hK (m + 1) (by omega)
    change soundservicelaw05_GainRamps.l1 (m + 1 + 1) _ _ _ _ _ _ _ _ _ _ _ _ _ = some true
    rw [soundservicelaw05_GainRamps.l1, if_neg (by omega), refretarget_step, retarget_val]
    rw [Option.bind_some, Option.bind_some]
    rw [if_neg (by simp), if_pos rfl]
    unfold gain_Valid.f
    rw [valid_val, refvalid_val, Option.bind_some, Option.bind_some, Option.bind_some, if_neg (by simp)]
    exact hn
  | succ d ih =>
    intro i hi hd
    have hlt : i < ys.length := by omega
    refine ev_call (fun k => soundserviceref05_At.f k F T N A ys[i]) ?fx (fun k => ?_) (refat_ev F T N A ys[i]) ?_
    rotate_left
    · rw [soundservicelaw05_GainRamps.l1, if_pos (by omega), if_pos (by omega), if_pos (by omega), rd_at hlt, at_val, Option.bind_some]
    · refine Ev.congr (fun k => ?_) (ih (i + 1) (by omega) (by omega))
      rw [if_pos rfl, w64 (s := (i : Int) + 1) (by omega) (by omega), show (i : Int) + 1 = ((i + 1 : Nat) : Int) from by omega]

theorem outer (x2 x3 x4 : Int) (xs : List S35) (hl : xs.length ≤ 100) (d : Nat) :
    ∀ i : Nat, i ≤ xs.length → xs.length - i = d → Ev (fun k => soundservicelaw05_GainRamps.l0 k x2 x3 x4 xs (xs.length : Int) (i : Int)) true := by
  induction d with
  | zero =>
    intro i hi hd
    refine Ev.step (f := fun _ => some true) (fun k => ?_) (Ev.now _)
    rw [soundservicelaw05_GainRamps.l0, if_neg (by omega)]
  | succ d ih =>
    intro i hi hd
    have hn := ih (i + 1) (by omega) (by omega)
    have h1 := inner x2 x3 x4 xs (xs.length : Int) (i : Int) ((rd_T35 xs (i : Int)).f0) ((rd_T35 xs (i : Int)).f1) ((rd_T35 xs (i : Int)).f2) ((rd_T35 xs (i : Int)).f3) [x2, Int.tmod x2 16] (by simp)
      (by rw [w64 (s := (i : Int) + 1) (by omega) (by omega), show (i : Int) + 1 = ((i + 1 : Nat) : Int) from by omega]; exact hn) 2 0 (by simp) (by simp)
    refine Ev.step (fun k => ?_) h1
    rw [soundservicelaw05_GainRamps.l0, if_pos (by omega), if_pos (by omega), if_pos (by omega), Option.bind_some]
    rfl

end GainRampsPure

open GainRampsPure

/-- For all ramps, lists and numbers. -/
theorem GainRamps : soundservicelaw05_GainRamps.Pure := by
  intro F T N A l i g n _ _ _ _ _ _ hw _ _ _
  refine Ev.rounds (g := fun k => soundservicelaw05_GainRamps.f k F T N A l i g n) ?_
  obtain ⟨l1, e1, h1, _⟩ := new_spec (dz_of hw)
  obtain ⟨F', T', N', A', l2, e2, _, _, _⟩ := ramp_spec h1
  have h := outer i g n [⟨F, T, N, A⟩, ⟨F', T', N', A'⟩] (by simp) 2 0 (by simp) (by simp)
  refine Ev.congr (fun k => ?_) h
  unfold soundservicelaw05_GainRamps.f
  rw [sane_true, Option.bind_some, if_pos rfl, e1, Option.bind_some, e2, Option.bind_some, Option.bind_some]
  rfl

end Go.Proofs.Ytegodmjmoagajaa.Pure
