/- The statement GainApplies over its printed functions: gain.Apply, gain.Mul and gain.Volume answer as the reference does, for all numbers. No condition. -/
import Derived.Test.YtegodmjmoagajaaPGainAppliesx2
namespace Go.Proofs.Ytegodmjmoagajaa.Pure
open Go.RowKit Go.Proofs.Ytegodmjmoagajaa.PGainApplies Go.Proofs.YtegodmjmoagajaaW.PrintWords Go.Proofs.YtegodmjmoagajaaW.PrintLast

namespace GainAppliesPure

theorem sane_true : soundservicelaw05_sane.f = some true := by decide +kernel

theorem wrap_id {s : Int} (h0 : -2147483648 ≤ s) (h1 : s ≤ 2147483647) : wrap64 s = s := by
  unfold wrap64
  omega

theorem apply_eq (s g : Int) (h0 : -2147483648 ≤ s) (h1 : s ≤ 2147483647) : ∃ r, gain_Apply.f s g = some r ∧ soundserviceref05_Apply.f s g = some r := by
  have e : gain_Apply.f s g = soundserviceref05_Apply.f s g := by
    unfold gain_Apply.f soundserviceref05_Apply.f
    rw [wrap_id h0 h1]
    rfl
  have t : ∃ r, gain_Apply.f s g = some r := by
    unfold gain_Apply.f gain_is.f sample_Sat.f
    repeat' split
    all_goals simp
    all_goals (split <;> exact ⟨_, rfl⟩)
  obtain ⟨r, hr⟩ := t
  exact ⟨r, hr, by rw [← e]; exact hr⟩

theorem mul_eq (a b : Int) : ∃ r, gain_Mul.f a b = some r ∧ soundserviceref05_Mul.f a b = some r := by
  have e : gain_Mul.f a b = soundserviceref05_Mul.f a b := rfl
  have t : ∃ r, gain_Mul.f a b = some r := by
    unfold gain_Mul.f gain_is.f
    repeat' split
    all_goals simp
    all_goals (repeat' split)
    all_goals exact ⟨_, rfl⟩
  obtain ⟨r, hr⟩ := t
  exact ⟨r, hr, by rw [← e]; exact hr⟩

theorem vol_eq (v : Int) : ∃ r, gain_Volume.f v = some r ∧ soundserviceref05_Volume.f v = some r := ⟨_, rfl, rfl⟩

theorem wf_i32 {a : Int} (h : (Lit.int .i32 a).wf = true) : -2147483648 ≤ a ∧ a ≤ 2147483647 := by
  simp [Lit.wf] at h
  exact h

theorem wrap32_range (a : Int) : -2147483648 ≤ wrap32 a ∧ wrap32 a ≤ 2147483647 := by
  unfold wrap32
  omega

theorem sat_range (n : Int) : ∃ r, soundserviceref04_Sat.f n = some r ∧ -8388608 ≤ r ∧ r ≤ 8388607 := by
  refine ⟨_, rfl, ?_⟩
  unfold mx mn
  omega

theorem l1_all (x0 x2 x3 x10 : Int) (x20 : List Int) (x21 x22 : Int) (xs : List Int) (hx : ∀ x ∈ xs, -2147483648 ≤ x ∧ x ≤ 2147483647) (hl : xs.length ≤ 100) (k : Nat) (b : Bool)
    (h0 : soundservicelaw05_GainApplies.l0 k x0 x2 x3 x20 x21 (wrap64 (x22 + 1)) = some b) (d : Nat) :
    ∀ i : Nat, i ≤ xs.length → xs.length - i = d → soundservicelaw05_GainApplies.l1 (k + d + 1) x0 x2 x3 x10 x20 x21 x22 xs (xs.length : Int) (i : Int) = some b := by
  induction d with
  | zero =>
    intro i hi hd
    obtain ⟨m, hm, hm'⟩ := mul_eq x10 x2
    obtain ⟨n, hn, hn'⟩ := mul_eq x10 (Int.tmod (wrap64 ((Int.tmod x2 262144) + 262144)) 262144)
    simp only [soundservicelaw05_GainApplies.l1]
    rw [if_neg (by omega), hm, hm']
    simp only [Option.bind_some, if_true]
    rw [hn, hn']
    simp only [Option.bind_some, if_true]
    exact h0
  | succ d ih =>
    intro i hi hd
    have hlt : i < xs.length := by omega
    have hr : -2147483648 ≤ rd xs (i : Int) ∧ rd xs (i : Int) ≤ 2147483647 := by
      have : rd xs (i : Int) = xs[i] := by simp [rd, List.getD_eq_getElem?_getD, hlt]
      rw [this]
      exact hx _ (List.getElem_mem hlt)
    obtain ⟨r, ha, hb⟩ := apply_eq (rd xs (i : Int)) x10 hr.1 hr.2
    have hw : wrap64 ((i : Int) + 1) = ((i + 1 : Nat) : Int) := by
      unfold wrap64
      omega
    rw [show k + (d + 1) + 1 = (k + d + 1) + 1 from by omega]
    rw [soundservicelaw05_GainApplies.l1]
    rw [if_pos (by omega), if_pos (by omega), if_pos (by omega), ha, hb]
    simp only [Option.bind_some, if_true]
    rw [hw]
    exact ih (i + 1) (by omega) (by omega)

theorem l0_all (x0 x2 x3 : Int) (h0 : -2147483648 ≤ x0) (h1 : x0 ≤ 2147483647) (ys : List Int) (hl : ys.length ≤ 100) (k d : Nat) :
    ∀ i : Nat, i ≤ ys.length → ys.length - i = d → soundservicelaw05_GainApplies.l0 (k + 5 * d + 1) x0 x2 x3 ys (ys.length : Int) (i : Int) = some true := by
  induction d with
  | zero =>
    intro i hi hd
    obtain ⟨m, hm, hm'⟩ := vol_eq x3
    obtain ⟨n, hn, hn'⟩ := vol_eq (Int.tmod x3 120)
    simp only [soundservicelaw05_GainApplies.l0]
    rw [if_neg (by omega), hm, hm']
    simp only [Option.bind_some, if_true]
    rw [hn, hn']
    simp
  | succ d ih =>
    intro i hi hd
    have hlt : i < ys.length := by omega
    have hw : wrap64 ((i : Int) + 1) = ((i + 1 : Nat) : Int) := by
      unfold wrap64
      omega
    obtain ⟨r, hr, hr0, hr1⟩ := sat_range (wrap64 x0)
    have hm : -2147483648 ≤ Int.tmod x0 1000 ∧ Int.tmod x0 1000 ≤ 2147483647 := by
      have := Int.tmod_lt_of_pos x0 (b := 1000) (by omega)
      have := Int.lt_tmod_of_pos x0 (b := 1000) (by omega)
      omega
    rw [show k + 5 * (d + 1) + 1 = (k + 5 * d + 5) + 1 from by omega]
    rw [soundservicelaw05_GainApplies.l0]
    rw [if_pos (by omega), if_pos (by omega), if_pos (by omega), hr]
    simp only [Option.bind_some]
    refine l1_all x0 x2 x3 _ ys _ i [x0, r, Int.tmod x0 1000] ?_ (by simp) (k + 5 * d + 1) true ?_ 3 0 (by simp) (by simp)
    · intro x hx
      simp at hx
      rcases hx with rfl | rfl | rfl
      · exact ⟨h0, h1⟩
      · omega
      · exact hm
    · rw [hw]
      exact ih (i + 1) (by omega) (by omega)

end GainAppliesPure

open GainAppliesPure

/-- For all numbers. -/
theorem GainApplies : soundservicelaw05_GainApplies.Pure := by
  intro a0 a1 a2 a3 w0 _ _ _
  have h := wf_i32 w0
  refine ⟨17, ?_⟩
  unfold soundservicelaw05_GainApplies.f
  rw [sane_true]
  simp only [Option.bind_some, if_true]
  exact l0_all a0 a2 a3 h.1 h.2 _ (by simp) 1 3 0 (by simp) (by simp)

end Go.Proofs.Ytegodmjmoagajaa.Pure
