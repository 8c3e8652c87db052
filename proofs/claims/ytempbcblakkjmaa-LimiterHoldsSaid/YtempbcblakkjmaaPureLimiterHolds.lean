/- The statement LimiterHolds over its functions. No condition. -/
import Derived.Test.YtempbcblakkjmaaPureDiceSums
import Derived.Test.YtempbcblakkjmaaQ7
set_option linter.unusedVariables false
namespace Go.Proofs.Ytempbcblakkjmaa.Pure
open Go.RowKit Go.Proofs.Ytempbcblakkjmaa.Q Go.Proofs.Ytempbcblakkjmaa.LimL Go.Proofs.Ytempbcblakkjmaa.DiceL Go.Proofs.YtempbcblakkjmaaW.PrintWords Go.Proofs.YtempbcblakkjmaaW.PrintLast

namespace LimiterHoldsPure

theorem loop {T R G : Int} (t0 : 1 ≤ T) (t1 : T ≤ 8388607) (s ys : List Int) (hl : ys.length ≤ 1000000) (hal : Along (Held T) s ys) (d : Nat) :
    ∀ i : Nat, i ≤ ys.length → ys.length - i = d → Ev (fun k => soundservicelaw08_LimiterHolds.l0 k s ys (ys.length : Int) (i : Int) T R G) true := by
  induction d with
  | zero =>
    intro i hi hd
    refine Ev.step (f := fun _ => some true) (fun k => ?_) (Ev.now _)
    rw [soundservicelaw08_LimiterHolds.l0, if_neg (by omega)]
  | succ d ih =>
    intro i hi hd
    have hlt : i < ys.length := by omega
    have hls := hal.1
    have hls2 : i < s.length := by omega
    obtain ⟨p1, p2, p3, p4⟩ := hal.2 i hls2 hlt
    refine Ev.step (fun k => ?_) (ih (i + 1) (by omega) (by omega))
    rw [soundservicelaw08_LimiterHolds.l0, if_pos (by omega), if_pos (by omega), if_pos (by omega), LimL.rd_at hlt, LimL.rd_at hls2, LimL.w64 (s := ys[i]) (by omega) (by omega), LimL.w64 (s := -ys[i]) (by omega) (by omega), if_neg (by omega), if_neg (by omega), LimL.w64 (s := (i : Int) + 1) (by omega) (by omega), show (i : Int) + 1 = ((i + 1 : Nat) : Int) from by omega]
    by_cases h1 : ys[i] > 0
    · rw [if_pos h1, if_pos (by omega), if_neg (by omega), if_neg (by omega)]
    · rw [if_neg h1]
      by_cases h2 : ys[i] < 0
      · rw [if_pos h2, if_pos (by omega), if_neg (by omega)]
      · rw [if_neg h2]

end LimiterHoldsPure

open LimiterHoldsPure

/-- For all bytes. -/
theorem LimiterHolds : soundservicelaw08_LimiterHolds.Pure := by
  intro l _ _ hw
  refine Ev.rounds (g := fun k => soundservicelaw08_LimiterHolds.f k l) ?_
  obtain ⟨l1, e1, h1, _⟩ := new_spec (dz_of hw)
  obtain ⟨T, R, G, l2, e2, h2, hok, _⟩ := made_spec h1
  obtain ⟨m, l3, e3, h3, m0, m1⟩ := next_spec h2 20
  obtain ⟨n, rfl⟩ := Int.eq_ofNat_of_zero_le m0
  obtain ⟨s, l4, e4, h4, hs, hsm⟩ := sums_spec h3 (n * 2) (by omega)
  have hrun : Ev (fun k => limiter_Run.f k T R G 2 s) (2, (outs 2 T R n G s).1, T, R, (outs 2 T R n G s).2, 0) := run_good (c := 2) (n := n) hok (by omega) (by omega) hs (by omega) hsm
  have hh := outs_held (c := 2) n G s hok hs
  have hlen := outs_length (T := T) (R := R) 2 n G s hs
  refine ev_head (fun k => soundservicelaw08_sane.f k) (fun k t => _) (fun k => rfl) sane_ev ?_
  simp only [if_true]
  refine ev_head (fun k => soundservicelaw08_sums.f k l3 ((n * 2 : Nat) : Int)) ?F (fun k => ?_) e4 ?_
  rotate_left
  · rw [e1, Option.bind_some, e2, Option.bind_some]
    dsimp only
    rw [e3, Option.bind_some]
    dsimp only
    rw [LimL.w64 (s := 2 * (n : Int)) (by omega) (by omega), show 2 * (n : Int) = ((n * 2 : Nat) : Int) from by omega]
  · refine ev_head (fun k => limiter_Run.f k T R G 2 s) (fun k t => _) (fun k => rfl) hrun ?_
    refine Ev.congr (f := fun k => soundservicelaw08_LimiterHolds.j0 k s false T R G 2 (outs 2 T R n G s).1) (fun k => ?_) ?_
    · dsimp only
      have hr := hh.2.2.2.2.2
      rw [if_pos rfl, if_pos (by omega), if_neg (by omega), decide_eq_false (by omega)]
    · refine Ev.step (fun k => ?_) (loop (R := R) (G := G) hok.1 hok.2.1 s (outs 2 T R n G s).1 (by omega) hh.1 _ 0 (by omega) rfl)
      rw [soundservicelaw08_LimiterHolds.j0, if_neg (by simp)]
      rfl

end Go.Proofs.Ytempbcblakkjmaa.Pure
