/- The statement GainRuns over its functions: the blocks that ramps make, and the ramps after them, or the error, are the reference's. No condition. -/
import Derived.Test.YtegodmjmoagajaaPureGainRunRef
import Derived.Test.YtegodmjmoagajaaPureSame
import Derived.Test.YtegodmjmoagajaaPureDiceRamp
import Derived.Test.YtegodmjmoagajaaQR4
import Derived.Test.YtegodmjmoagajaaQR9
set_option linter.unusedVariables false
namespace Go.Proofs.Ytegodmjmoagajaa.Pure
open Go.RowKit Go.Proofs.Ytegodmjmoagajaa.QR Go.Proofs.Ytegodmjmoagajaa.GainL Go.Proofs.Ytegodmjmoagajaa.DiceL Go.Proofs.Ytegodmjmoagajaa.BlockL Go.Proofs.YtegodmjmoagajaaW.PrintWords Go.Proofs.YtegodmjmoagajaaW.PrintLast

namespace GainRunsPure

theorem sane_true : soundservicelaw05_sane.f = some true := by decide +kernel
theorem rd49 {ps : List S49} {i : Nat} (h : i < ps.length) : rd_T49 ps (i : Int) = ps[i] := by
  simp [rd_T49, List.getD_eq_getElem?_getD, h]

theorem inner (xs : List S35) (x29 x30 : Int) (ys : List S49) (hys : ∀ y ∈ ys, y.f1.length ≤ 1000) (hl : ys.length ≤ 100) (a : Int) (b l : List Int) (F T N A : Int)
    (hnext : Ev (fun k => soundservicelaw05_GainRuns.l0 k xs x29 (wrap64 (x30 + 1)) a b l) true) (d : Nat) :
    ∀ i : Nat, i ≤ ys.length → ys.length - i = d → Ev (fun k => soundservicelaw05_GainRuns.l1 k xs x29 x30 ys (ys.length : Int) (i : Int) a b l F T N A) true := by
  induction d with
  | zero =>
    intro i hi hd
    refine Ev.step (fun k => ?_) hnext
    rw [soundservicelaw05_GainRuns.l1, if_neg (by omega)]
  | succ d ih =>
    intro i hi hd
    have hlt : i < ys.length := by omega
    have hy := hys ys[i] (List.getElem_mem hlt)
    have h1 := run_ev F T N A ys[i].f0 ys[i].f1 (by omega)
    have h2 := refrun_ev F T N A ys[i].f0 ys[i].f1 (by omega)
    have hlen : (if RampOk F T N A ∧ BlockOk ys[i].f0 ys[i].f1 then (ys[i].f0, runV F T N A ys[i].f0.toNat ys[i].f1, F, T, N, later N A ((ys[i].f1.length : Int) / ys[i].f0), (0 : Int)) else (0, [], 0, 0, 0, 0, 1)).2.1.length ≤ 1000 := by
      split
      · rw [runV_length]
        exact hy
      · simp
    generalize (if RampOk F T N A ∧ BlockOk ys[i].f0 ys[i].f1 then (ys[i].f0, runV F T N A ys[i].f0.toNat ys[i].f1, F, T, N, later N A ((ys[i].f1.length : Int) / ys[i].f0), (0 : Int)) else (0, [], 0, 0, 0, 0, 1)) = v at h1 h2 hlen
    refine ev_call (fun k => gain_Run.f k F T N A ys[i].f0 ys[i].f1) ?gx (fun k => ?_) h1 ?_
    rotate_left
    · rw [soundservicelaw05_GainRuns.l1, if_pos (by omega), if_pos (by omega), if_pos (by omega), rd49 hlt]
    · refine ev_head (fun k => soundserviceref05_Run.f k F T N A ys[i].f0 ys[i].f1) (fun k t => _) (fun k => rfl) h2 ?_
      refine ev_head (fun k => soundserviceref04_Same.f k v.1 v.2.1 v.1 v.2.1) ?hx (fun k => ?_) (SameL.same_ev v.1 v.2.1 (by omega)) ?_
      rotate_left
      · rw [if_neg (by simp), if_pos rfl]
      · refine Ev.congr (fun k => ?_) (ih (i + 1) (by omega) (by omega))
        rw [if_pos rfl, w64 (s := (i : Int) + 1) (by omega) (by omega), show (i : Int) + 1 = ((i + 1 : Nat) : Int) from by omega]

theorem outer (xs : List S35) (hl : xs.length ≤ 100) (a : Int) (b : List Int) (hb : b.length ≤ 300) (d : Nat) :
    ∀ (i : Nat) (l : List Int), i ≤ xs.length → xs.length - i = d → Dz l → Ev (fun k => soundservicelaw05_GainRuns.l0 k xs (xs.length : Int) (i : Int) a b l) true := by
  induction d with
  | zero =>
    intro i l hi hd h
    refine Ev.step (f := fun _ => some true) (fun k => ?_) (Ev.now _)
    rw [soundservicelaw05_GainRuns.l0, if_neg (by omega)]
  | succ d ih =>
    intro i l hi hd h
    obtain ⟨c, l1, e1, h1, c0, c1⟩ := next_spec h 2
    obtain ⟨f, l2, e2, h2, f0, f1⟩ := next_spec h1 15
    obtain ⟨cn, rfl⟩ := Int.eq_ofNat_of_zero_le c0
    obtain ⟨fn, rfl⟩ := Int.eq_ofNat_of_zero_le f0
    have hcf : (1 + cn) * fn ≤ 2 * 14 := Nat.mul_le_mul (by omega) (by omega)
    obtain ⟨ys, l3, e3, h3, hy, hs⟩ := made_spec h2 (1 + cn) fn (by omega)
    have hn := ih (i + 1) l3 (by omega) (by omega) h3
    have hi1 := inner xs (xs.length : Int) (i : Int) [⟨a, b⟩, ⟨((1 + cn : Nat) : Int), ys⟩] (by
      intro y hy'
      simp only [List.mem_cons, List.not_mem_nil, or_false] at hy'
      rcases hy' with rfl | rfl
      · exact Nat.le_trans hb (by omega)
      · exact Nat.le_trans (Nat.le_of_eq hy) (by omega)) (by simp) a b l3 ((rd_T35 xs (i : Int)).f0) ((rd_T35 xs (i : Int)).f1) ((rd_T35 xs (i : Int)).f2) ((rd_T35 xs (i : Int)).f3)
      (by rw [w64 (s := (i : Int) + 1) (by omega) (by omega), show (i : Int) + 1 = ((i + 1 : Nat) : Int) from by omega]; exact hn) 2 0 (by simp) (by simp)
    refine ev_call (fun k => soundservicemade_Block.f k l2 ((1 + cn : Nat) : Int) (fn : Int)) ?gx (fun k => ?_) e3 ?_
    rotate_left
    · rw [soundservicelaw05_GainRuns.l0, if_pos (by omega), if_pos (by omega), if_pos (by omega), e1, Option.bind_some]
      dsimp only
      rw [e2, Option.bind_some]
      dsimp only
      rw [w64 (s := 1 + (cn : Int)) (by omega) (by omega), show 1 + (cn : Int) = ((1 + cn : Nat) : Int) from by omega]
    · refine Ev.congr (fun k => ?_) hi1
      rw [Option.bind_some]
      rfl

end GainRunsPure

open GainRunsPure

/-- For all ramps, blocks and bytes. -/
theorem GainRuns : soundservicelaw05_GainRuns.Pure := by
  intro F T N A a b l _ _ _ _ _ _ _ _ _ hw
  refine Ev.rounds (g := fun k => soundservicelaw05_GainRuns.f k F T N A a b l) ?_
  by_cases hb : b.length ≤ 300
  · obtain ⟨l1, e1, h1, _⟩ := new_spec (dz_of hw)
    obtain ⟨F', T', N', A', l2, e2, h2, _, _⟩ := ramp_spec h1
    refine Ev.congr (fun k => ?_) (outer [⟨F, T, N, A⟩, ⟨F', T', N', A'⟩] (by simp) a b hb 2 0 l2 (by simp) (by simp) h2)
    unfold soundservicelaw05_GainRuns.f soundservicekeep_Block.f
    rw [sane_true, Option.bind_some, if_pos rfl, Option.bind_some, if_pos (by simp; omega), e1, Option.bind_some, e2, Option.bind_some, Option.bind_some]
    rfl
  · refine Ev.congr (fun k => ?_) (Ev.now true)
    unfold soundservicelaw05_GainRuns.f soundservicekeep_Block.f
    rw [sane_true, Option.bind_some, if_pos rfl, Option.bind_some, if_neg (by simp; omega)]

end Go.Proofs.Ytegodmjmoagajaa.Pure
