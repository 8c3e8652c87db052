/- The statement LimiterRuns over its functions: which limiters are valid, needed gains, and the blocks that limiters make, or the error, are the reference's. No condition. -/
import Derived.Test.YtempbcblakkjmaaPureLimiterRef
import Derived.Test.YtempbcblakkjmaaPureDiceSums
import Derived.Test.YtempbcblakkjmaaPureSame
import Derived.Test.YtempbcblakkjmaaQR9
set_option linter.unusedVariables false
namespace Go.Proofs.Ytempbcblakkjmaa.Pure
open Go.RowKit Go.Proofs.Ytempbcblakkjmaa.QR Go.Proofs.Ytempbcblakkjmaa.LimL Go.Proofs.Ytempbcblakkjmaa.DiceL Go.Proofs.YtempbcblakkjmaaW.PrintWords Go.Proofs.YtempbcblakkjmaaW.PrintLast

namespace LimiterRunsPure

theorem rdL {ps : List (List Int)} {i : Nat} (h : i < ps.length) : rd_L4 ps (i : Int) = ps[i] := by
  simp [rd_L4, List.getD_eq_getElem?_getD, h]
theorem runV_length (T R G c : Int) (s : List Int) (hs : s.length ≤ 1000) : (runV T R G c s).2.1.length ≤ 1000 := by
  unfold runV
  split
  · split
    · rename_i h1 h2
      obtain ⟨⟨f1, f2, f3, f4⟩, _⟩ := h2
      obtain ⟨m, rfl⟩ := Int.eq_ofNat_of_zero_le (show 0 ≤ c by omega)
      rw [Int.toNat_natCast]
      have hmod : s.length % m = 0 := by
        have : ((s.length % m : Nat) : Int) = 0 := by rw [Int.natCast_emod]; exact f3
        omega
      have hlen : s.length = s.length / m * m := by
        have := Nat.div_add_mod s.length m
        rw [Nat.mul_comm] at this
        omega
      show (outs m T R (s.length / m) G s).1.length ≤ 1000
      rw [outs_length m (s.length / m) G s hlen]
      omega
    · simp
  · simp

section
variable (x1 : Int) (x2 : List Int) (x4 x5 : Int) (xs : List S23) (x41 a b c : Int) (T R G : Int)
theorem inner (s : List Int) (hs : s.length ≤ 1000) (x42 x50 x51 : Int) (ss : List (List Int)) (l : List Int) (cs : List Int) (hl : cs.length ≤ 100)
    (hnext : Ev (fun k => soundservicelaw08_LimiterRuns.l1 k x1 x2 x4 x5 xs x41 x42 ss x50 (wrap64 (x51 + 1)) a b c l T R G) true) (d : Nat) :
    ∀ i : Nat, i ≤ cs.length → cs.length - i = d → Ev (fun k => soundservicelaw08_LimiterRuns.l2 k x1 x2 x4 x5 s xs x41 x42 ss x50 x51 cs (cs.length : Int) (i : Int) a b c l T R G) true := by
  induction d with
  | zero =>
    intro i hi hd
    refine Ev.step (fun k => ?_) hnext
    rw [soundservicelaw08_LimiterRuns.l2, if_neg (by omega)]
  | succ d ih =>
    intro i hi hd
    have hlt : i < cs.length := by omega
    have h1 := run_ev T R G cs[i] s (by omega)
    have h2 := refrun_ev T R G cs[i] s (by omega)
    have hlen := runV_length T R G cs[i] s hs
    generalize runV T R G cs[i] s = v at h1 h2 hlen
    refine ev_call (fun k => limiter_Run.f k T R G cs[i] s) ?gx (fun k => ?_) h1 ?_
    rotate_left
    · rw [soundservicelaw08_LimiterRuns.l2, if_pos (by omega), if_pos (by omega), if_pos (by omega), LimL.rd_at hlt]
    · refine ev_head (fun k => soundserviceref08_Run.f k T R G cs[i] s) (fun k t => _) (fun k => rfl) h2 ?_
      refine ev_head (fun k => soundserviceref04_Same.f k v.1 v.2.1 v.1 v.2.1) ?hx (fun k => ?_) (SameL.same_ev v.1 v.2.1 (by omega)) ?_
      rotate_left
      · rw [if_neg (by simp), if_pos rfl]
      · refine Ev.congr (fun k => ?_) (ih (i + 1) (by omega) (by omega))
        rw [if_pos rfl, LimL.w64 (s := (i : Int) + 1) (by omega) (by omega), show (i : Int) + 1 = ((i + 1 : Nat) : Int) from by omega]
theorem middle (x42 : Int) (ss : List (List Int)) (hss : ∀ s ∈ ss, s.length ≤ 1000) (hl : ss.length ≤ 100) (l : List Int)
    (hnext : Ev (fun k => soundservicelaw08_LimiterRuns.l0 k x1 x2 x4 x5 xs x41 (wrap64 (x42 + 1)) a b c l) true) (d : Nat) :
    ∀ i : Nat, i ≤ ss.length → ss.length - i = d → Ev (fun k => soundservicelaw08_LimiterRuns.l1 k x1 x2 x4 x5 xs x41 x42 ss (ss.length : Int) (i : Int) a b c l T R G) true := by
  induction d with
  | zero =>
    intro i hi hd
    refine Ev.step (fun k => ?_) hnext
    rw [soundservicelaw08_LimiterRuns.l1, if_neg (by omega)]
  | succ d ih =>
    intro i hi hd
    have hlt : i < ss.length := by omega
    have h := inner x1 x2 x4 x5 xs x41 a b c T R G ss[i] (hss _ (List.getElem_mem hlt)) x42 (ss.length : Int) (i : Int) ss l [x1, 2] (by simp) (by
      rw [LimL.w64 (s := (i : Int) + 1) (by omega) (by omega), show (i : Int) + 1 = ((i + 1 : Nat) : Int) from by omega]
      exact ih (i + 1) (by omega) (by omega)) 2 0 (by simp) (by simp)
    refine Ev.step (fun k => ?_) h
    rw [soundservicelaw08_LimiterRuns.l1, if_pos (by omega), if_pos (by omega), if_pos (by omega), Option.bind_some, rdL hlt]
    rfl
end
theorem last (x1 : Int) (x2 : List Int) (x4 x5 : Int) (xs : List S23) (a b c : Int) (l : List Int) (i : Int) (hi : ¬ i < (xs.length : Int)) : Ev (fun k => soundservicelaw08_LimiterRuns.l0 k x1 x2 x4 x5 xs (xs.length : Int) i a b c l) true := by
  obtain ⟨u, hu⟩ := need_any x4 x5
  obtain ⟨v, hv⟩ := need_any (Int.tmod x4 8388608) (Int.tmod x5 1073741824)
  obtain ⟨n, hn⟩ : ∃ n, limiter_New.f x4 x5 = some n := by
    unfold limiter_New.f
    rw [valid_val, Option.bind_some]
    split
    · exact ⟨_, rfl⟩
    · exact ⟨_, rfl⟩
  refine ev_call (fun k => limiter_Needed.f k x4 x5) ?gx (fun k => ?_) hu ?_
  rotate_left
  · rw [soundservicelaw08_LimiterRuns.l0, if_neg hi, refnew_eq, hn, Option.bind_some, Option.bind_some, refvalid_val, valid_val, Option.bind_some, Option.bind_some, if_pos (by simp)]
  · refine ev_head (fun k => soundserviceref08_Needed.f k x4 x5) (fun k t => _) (fun k => rfl) (Ev.congr (fun k => refneed_eq k x4 x5) hu) ?_
    refine ev_head (fun k => limiter_Needed.f k (Int.tmod x4 8388608) (Int.tmod x5 1073741824)) ?hx (fun k => ?_) hv ?_
    rotate_left
    · rw [if_pos rfl]
    · refine ev_head (fun k => soundserviceref08_Needed.f k (Int.tmod x4 8388608) (Int.tmod x5 1073741824)) (fun k t => _) (fun k => rfl) (Ev.congr (fun k => refneed_eq k _ _) hv) ?_
      refine Ev.congr (fun k => ?_) (Ev.now true)
      rw [if_pos rfl, if_pos (by simp)]
      simp
theorem outer (x1 : Int) (x2 : List Int) (hx2 : x2.length ≤ 100) (x4 x5 : Int) (xs : List S23) (hl : xs.length ≤ 100) (a b c : Int) (d : Nat) :
    ∀ (i : Nat) (l : List Int), i ≤ xs.length → xs.length - i = d → Dz l → Ev (fun k => soundservicelaw08_LimiterRuns.l0 k x1 x2 x4 x5 xs (xs.length : Int) (i : Int) a b c l) true := by
  induction d with
  | zero =>
    intro i l hi hd h
    exact last x1 x2 x4 x5 xs a b c l (i : Int) (by omega)
  | succ d ih =>
    intro i l hi hd h
    obtain ⟨s, l1, e1, h1, hs, hsm⟩ := sums_spec h 12 (by omega)
    have hm := middle x1 x2 x4 x5 xs (xs.length : Int) a b c ((rd_T23 xs (i : Int)).f0) ((rd_T23 xs (i : Int)).f1) ((rd_T23 xs (i : Int)).f2) (i : Int) [x2, s] (by
      intro y hy
      simp only [List.mem_cons, List.not_mem_nil, or_false] at hy
      rcases hy with rfl | rfl <;> omega) (by simp) l1 (by
      rw [LimL.w64 (s := (i : Int) + 1) (by omega) (by omega), show (i : Int) + 1 = ((i + 1 : Nat) : Int) from by omega]
      exact ih (i + 1) l1 (by omega) (by omega) h1) 2 0 (by simp) (by simp)
    refine ev_call (fun k => soundservicelaw08_sums.f k l ((12 : Nat) : Int)) ?gx (fun k => ?_) e1 ?_
    rotate_left
    · rw [soundservicelaw08_LimiterRuns.l0, if_pos (by omega), if_pos (by omega), if_pos (by omega)]
      rfl
    · refine Ev.congr (fun k => ?_) hm
      rw [Option.bind_some]
      rfl

end LimiterRunsPure

open LimiterRunsPure

/-- For all limiters, numbers, sums and bytes. -/
theorem LimiterRuns : soundservicelaw08_LimiterRuns.Pure := by
  intro T R G x1 s l x4 x5 _ _ _ _ _ _ _ _ _ hw _ _
  refine Ev.rounds (g := fun k => soundservicelaw08_LimiterRuns.f k T R G x1 s l x4 x5) ?_
  refine ev_head (fun k => soundservicelaw08_sane.f k) (fun k t => _) (fun k => rfl) sane_ev ?_
  by_cases hs : (s.length : Int) > 100
  · refine Ev.congr (fun k => ?_) (Ev.now true)
    rw [if_pos rfl, if_pos hs]
  · obtain ⟨l1, e1, h1, _⟩ := new_spec (dz_of hw)
    obtain ⟨T', R', G', l2, e2, h2, _, _⟩ := made_spec h1
    refine Ev.congr (fun k => ?_) (outer x1 s (by omega) x4 x5 [⟨T, R, G⟩, ⟨T', R', G'⟩] (by simp) T R G 2 0 l2 (by simp) (by simp) h2)
    rw [if_pos rfl, if_neg hs, e1, Option.bind_some, e2, Option.bind_some, Option.bind_some]
    rfl

end Go.Proofs.Ytempbcblakkjmaa.Pure
