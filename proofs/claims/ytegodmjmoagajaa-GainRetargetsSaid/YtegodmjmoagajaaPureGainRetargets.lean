/- The statement GainRetargets over its functions: new targets, one after the other, lead to a gain that stays within all of them, and in the end to the last one. No condition. -/
import Derived.Test.YtegodmjmoagajaaQ11
import Derived.Test.YtegodmjmoagajaaPureGainRun
set_option linter.unusedVariables false
namespace Go.Proofs.Ytegodmjmoagajaa.Pure
open Go.RowKit Go.Proofs.Ytegodmjmoagajaa.Q Go.Proofs.Ytegodmjmoagajaa.GainL Go.Proofs.YtegodmjmoagajaaW.PrintWords Go.Proofs.YtegodmjmoagajaaW.PrintLast

namespace GainRetargetsPure

theorem sane_true : soundservicelaw05_sane.f = some true := by decide +kernel

theorem all_zero (m : Nat) : allS (List.replicate m 0) = true := by
  rw [allS_iff]
  intro x hx
  rw [List.eq_of_mem_replicate hx]
  unfold InS
  omega

theorem block_one {m : Nat} (hm : m ≤ 7) : BlockOk 1 (List.replicate m 0) := by
  refine ⟨by omega, by omega, ?_, ?_, all_zero m⟩
  · rw [List.length_replicate, Int.emod_one]
  · rw [List.length_replicate, Int.ediv_one]
    omega

/-- From the i-th target on: the present gain lies within lo and hi. -/
theorem loop (l : List Int) (hl : l.length ≤ 8) (hw : ∀ x ∈ l, 0 ≤ x ∧ x ≤ 65535) (s : Int) (s0 : 0 ≤ s) (d : Nat) :
    ∀ (i : Nat) (lo hi F T N A : Int), i ≤ l.length → l.length - i = d → RampOk F T N A → lo ≤ gainAt F T N A 0 → gainAt F T N A 0 ≤ hi →
      Ev (fun k => soundservicelaw05_GainRetargets.l0 k s lo hi l (l.length : Int) (i : Int) F T N A) true := by
  induction d with
  | zero =>
    intro i lo hi F T N A hi1 hd hr hlo hhi
    refine Ev.step (f := fun _ => some true) (fun k => ?_) (Ev.now _)
    rw [soundservicelaw05_GainRetargets.l0, if_neg (by omega)]
  | succ d ih =>
    intro i lo hi F T N A hi1 hd hr hlo hhi
    have hlt : i < l.length := by omega
    have hg := hw l[i] (List.getElem_mem hlt)
    have hm : 0 ≤ Int.tmod s 8 ∧ Int.tmod s 8 ≤ 7 := by
      rw [Int.tmod_eq_emod_of_nonneg s0]
      omega
    have h0 := gainAt_gain hr (i := 0) (by omega)
    have hr1 : RampOk (gainAt F T N A 0) l[i] 5 0 := ⟨h0.1, h0.2, by omega, by omega, by omega, by omega, by omega, by omega⟩
    obtain ⟨m, hm2⟩ := Int.eq_ofNat_of_zero_le hm.1
    have hm7 : m ≤ 7 := by omega
    have hrun := run_ev (gainAt F T N A 0) l[i] 5 0 1 (List.replicate m 0) (by rw [List.length_replicate]; omega)
    rw [if_pos ⟨hr1, block_one hm7⟩, List.length_replicate, Int.ediv_one] at hrun
    have hr2 : RampOk (gainAt F T N A 0) l[i] 5 (later 5 0 (m : Int)) := later_ok hr1 (by omega)
    have hin := gainAt_range hr2 (i := 0) (by omega)
    have hend : 5 ≤ m → gainAt (gainAt F T N A 0) l[i] 5 (later 5 0 (m : Int)) 0 = l[i] := fun h5 => by
      refine gainAt_end ?_
      unfold later mn
      omega
    have hlo2 : mn lo l[i] ≤ gainAt (gainAt F T N A 0) l[i] 5 (later 5 0 (m : Int)) 0 := by
      unfold mn
      omega
    have hhi2 : gainAt (gainAt F T N A 0) l[i] 5 (later 5 0 (m : Int)) 0 ≤ mx hi l[i] := by
      unfold mx
      omega
    have hnext := ih (i + 1) (mn lo l[i]) (mx hi l[i]) (gainAt F T N A 0) l[i] 5 (later 5 0 (m : Int)) (by omega) (by omega) hr2 hlo2 hhi2
    refine ev_call (fun k => gain_Run.f k (gainAt F T N A 0) l[i] 5 0 1 (List.replicate m 0)) ?F (fun k => ?_) hrun ?_
    rotate_left
    · rw [soundservicelaw05_GainRetargets.l0, if_pos (by omega), if_pos (by omega), if_pos (by omega), rd_at hlt, w64 (s := l[i]) (by omega) (by omega), retarget_val, if_pos ⟨hr, by omega, by omega, by omega, by omega⟩, Option.bind_some]
      rw [if_pos rfl, hm2, if_pos (by omega), Int.toNat_natCast, if_pos (by omega)]
    · refine Ev.congr (fun k => ?_) hnext
      rw [at_val, if_pos ⟨hr2, by omega⟩, Option.bind_some, if_pos rfl, if_neg (Int.not_lt.2 hlo2), if_neg (Int.not_lt.2 hhi2)]
      rw [w64 (s := (i : Int) + 1) (by omega) (by omega), show (i : Int) + 1 = ((i + 1 : Nat) : Int) from by omega]
      by_cases h5 : (m : Int) ≥ 5
      · rw [if_pos h5, if_pos (hend (by omega))]
      · rw [if_neg h5]

end GainRetargetsPure

open GainRetargetsPure

/-- For all lists. -/
theorem GainRetargets : soundservicelaw05_GainRetargets.Pure := by
  intro l a _ _ hw ha
  have b1 : (0 : Int) ≤ a ∧ a ≤ 255 := by
    simp [Lit.wf] at ha
    exact ha
  have hw2 : ∀ x ∈ l, 0 ≤ x ∧ x ≤ 65535 := fun x hx => by
    have h := hw x hx
    simp [Lit.wf] at h
    exact h
  refine Ev.rounds (g := fun k => soundservicelaw05_GainRetargets.f k l a) ?_
  by_cases h8 : (l.length : Int) > 8
  · refine Ev.congr (f := fun _ => some true) (fun k => ?_) (Ev.now _)
    unfold soundservicelaw05_GainRetargets.f
    rw [sane_true, Option.bind_some, if_pos rfl, if_pos h8]
  · have h := loop l (by omega) hw2 a b1.1 l.length 0 500 500 500 500 0 0 (by omega) (by omega) (by decide) (by decide) (by decide)
    refine Ev.congr (fun k => ?_) h
    unfold soundservicelaw05_GainRetargets.f
    rw [sane_true, Option.bind_some, if_pos rfl, if_neg h8]
    rfl

end Go.Proofs.Ytegodmjmoagajaa.Pure
