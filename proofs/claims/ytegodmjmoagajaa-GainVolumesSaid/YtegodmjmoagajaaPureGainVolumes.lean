/- The statement GainVolumes over its printed functions: volumes ascend from 0 to 1. No condition. -/
import Derived.Test.YtegodmjmoagajaaPGainVolumesx1
namespace Go.Proofs.Ytegodmjmoagajaa.Pure
open Go.RowKit Go.Proofs.Ytegodmjmoagajaa.PGainVolumes Go.Proofs.YtegodmjmoagajaaW.PrintWords Go.Proofs.YtegodmjmoagajaaW.PrintLast

namespace GainVolumesPure

theorem sane_true : soundservicelaw05_sane.f = some true := by decide +kernel

/-- The volume n, n within 0 and 100. -/
def vol (n : Nat) : Int := (n : Int) * n * n * 65536 / 1000000

theorem vol_val (v : Int) : gain_Volume.f v = some (vol (mx 0 (mn 100 v)).toNat) := by
  have h0 : 0 ≤ mx 0 (mn 100 v) ∧ mx 0 (mn 100 v) ≤ 100 := by
    unfold mx mn
    omega
  obtain ⟨n, hn⟩ := Int.eq_ofNat_of_zero_le h0.1
  unfold gain_Volume.f
  rw [hn] at h0 ⊢
  have hn' : n ≤ 100 := by omega
  rw [Int.toNat_natCast]
  have : ∀ m : Fin 101, (wrap64 (Int.tdiv (wrap64 ((wrap64 ((wrap64 (((m.val : Nat) : Int) * ((m.val : Nat) : Int))) * ((m.val : Nat) : Int))) * 65536)) 1000000)) = vol m.val := by decide +kernel
  rw [this ⟨n, by omega⟩]

theorem vol_up : ∀ m : Fin 101, ∀ n : Fin 101, m.val ≤ n.val → vol m.val ≤ vol n.val := by decide +kernel

theorem vol_range : ∀ m : Fin 101, 0 ≤ vol m.val ∧ vol m.val ≤ 65536 := by decide +kernel

end GainVolumesPure

open GainVolumesPure

/-- For all numbers. -/
theorem GainVolumes : soundservicelaw05_GainVolumes.Pure := by
  intro a0 w0
  have b0 : (-32768 : Int) ≤ a0 ∧ a0 ≤ 32767 := by
    simp [Lit.wf] at w0
    exact w0
  have hw : wrap64 a0 = a0 := by
    unfold wrap64
    omega
  have hw1 : wrap64 (a0 + 1) = a0 + 1 := by
    unfold wrap64
    omega
  unfold soundservicelaw05_GainVolumes.f
  rw [sane_true]
  simp only [Option.bind_some, if_true]
  rw [hw, hw1, vol_val, vol_val]
  simp only [Option.bind_some]
  have ha : (mx 0 (mn 100 a0)).toNat < 101 := by
    unfold mx mn
    omega
  have hb : (mx 0 (mn 100 (a0 + 1))).toNat < 101 := by
    unfold mx mn
    omega
  have hab : (mx 0 (mn 100 a0)).toNat ≤ (mx 0 (mn 100 (a0 + 1))).toNat := by
    unfold mx mn
    omega
  rw [if_pos (vol_up ⟨_, ha⟩ ⟨_, hb⟩ hab), show gain_Volume.f 0 = some 0 from by decide +kernel, show gain_Volume.f 100 = some 65536 from by decide +kernel]
  simp only [Option.bind_some, if_true]
  rw [if_pos (vol_range ⟨_, ha⟩).1]
  simp [(vol_range ⟨_, hb⟩).2]

end Go.Proofs.Ytegodmjmoagajaa.Pure
