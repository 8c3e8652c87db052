/- The statement LimiterQuiet over its functions. No condition. -/
import Derived.Test.YtempbcblakkjmaaPureDiceSums
import Derived.Test.YtempbcblakkjmaaQ9
set_option linter.unusedVariables false
namespace Go.Proofs.Ytempbcblakkjmaa.Pure
open Go.RowKit Go.Proofs.Ytempbcblakkjmaa.Q Go.Proofs.Ytempbcblakkjmaa.LimL Go.Proofs.Ytempbcblakkjmaa.DiceL Go.Proofs.YtempbcblakkjmaaW.PrintWords Go.Proofs.YtempbcblakkjmaaW.PrintLast

namespace LimiterQuietPure

/-- No sum above the threshold, the gain 1: all stays as it is. -/
theorem quiet {T R : Int} (ok : LimOk T R 65536) (n : Nat) : ∀ s : List Int, s.length = n * 1 → (∀ x ∈ s, -T ≤ x ∧ x ≤ T) → outs 1 T R n 65536 s = (s, 65536) := by
  induction n with
  | zero =>
    intro s hs _
    have : s = [] := List.eq_nil_of_length_eq_zero (by omega)
    subst this
    rfl
  | succ n ih =>
    intro s hs hx
    obtain ⟨x, l, rfl⟩ : ∃ x l, s = x :: l := by
      cases s with
      | nil => simp at hs
      | cons x l => exact ⟨x, l, rfl⟩
    have hx0 := hx x (List.mem_cons_self ..)
    have t1 := ok.1
    have t2 := ok.2.1
    have r1 := ok.2.2.1
    have hg : frameG T R 65536 [x] = 65536 := by
      have hp : peak 0 [x] ≤ T := peak_le [x] 0 T (by omega) (fun y hy => by
        rcases List.mem_singleton.1 hy with rfl
        exact hx0)
      unfold frameG need mn
      rw [if_pos hp, if_neg (by omega)]
    have ho : outV 65536 x = x := by
      have e : Int.tdiv (x * 65536) 65536 = x := Int.mul_tdiv_cancel x (by omega)
      unfold outV
      rw [e]
      unfold mx mn
      (repeat' split) <;> omega
    have h := ih l (by rw [List.length_cons] at hs; omega) (fun y hy => hx y (List.mem_cons_of_mem _ hy))
    show ([x].map (outV (frameG T R 65536 [x])) ++ (outs 1 T R n (frameG T R 65536 [x]) l).1, (outs 1 T R n (frameG T R 65536 [x]) l).2) = (x :: l, 65536)
    rw [hg, h, List.map_cons, ho]
    rfl
/-- Silence: the gain comes back as fast as the release says. -/
theorem back {T R : Int} (n : Nat) : ∀ G : Int, LimOk T R G → (outs 1 T R n G (List.replicate n 0)).2 = mn 65536 (G + n * R) := by
  induction n with
  | zero =>
    intro G ok
    have h := ok.2.2.2.2
    show G = mn 65536 (G + ((0 : Nat) : Int) * R)
    unfold mn
    rw [show ((0 : Nat) : Int) * R = 0 from Int.zero_mul R]
    split <;> omega
  | succ n ih =>
    intro G ok
    have t1 := ok.1
    have r1 := ok.2.2.1
    have hg : frameG T R G [0] = mn 65536 (G + R) := by
      unfold frameG need
      rw [if_pos (show peak 0 [0] ≤ T from by show (0 : Int) ≤ T; omega)]
    have h := ih (frameG T R G [0]) (frameG_ok ok _)
    show (outs 1 T R n (frameG T R G [0]) (List.replicate n 0)).2 = _
    rw [h, hg]
    have hm : ((n + 1 : Nat) : Int) * R = (n : Int) * R + R := by rw [show ((n + 1 : Nat) : Int) = (n : Int) + 1 from by omega, Int.add_mul, Int.one_mul]
    have h0 : 0 ≤ (n : Int) * R := Int.mul_nonneg (by omega) (by omega)
    rw [hm]
    unfold mn
    (repeat' split) <;> omega

theorem tail {T R : Int} (ok : LimOk T R 65536) (a : Int) (a0 : 0 ≤ a) (a1 : a ≤ 4294967295) (s : List Int) (hl : s.length ≤ 100) (hs : ∀ x ∈ s, -T ≤ x ∧ x ≤ T) (d : Nat) :
    ∀ i : Nat, i ≤ s.length → s.length - i = d → Ev (fun k => soundservicelaw08_LimiterQuiet.l1 k a s s (s.length : Int) (i : Int) T R 65536) true := by
  induction d with
  | zero =>
    intro i hi hd
    have hr1 : Ev (fun k => limiter_Run.f k T R 65536 1 [a]) (1, (outs 1 T R 1 65536 [a]).1, T, R, (outs 1 T R 1 65536 [a]).2, 0) := run_good (c := 1) (n := 1) ok (by omega) (by omega) rfl (by omega) (fun x hx => by
      rcases List.mem_singleton.1 hx with rfl
      omega)
    have ok2 := (outs_held (T := T) (R := R) 1 1 65536 [a] ok rfl).2
    obtain ⟨g, hg⟩ : ∃ g, g = (outs 1 T R 1 65536 [a]).2 := ⟨_, rfl⟩
    rw [← hg] at ok2 hr1
    have hr2 : Ev (fun k => limiter_Run.f k T R g 1 (List.replicate 20 0)) (1, (outs 1 T R 20 g (List.replicate 20 0)).1, T, R, (outs 1 T R 20 g (List.replicate 20 0)).2, 0) := run_good (c := 1) (n := 20) ok2 (by omega) (by omega) (by rw [List.length_replicate]) (by omega) (fun x hx => by
      rw [List.eq_of_mem_replicate hx]
      omega)
    have hb := back 20 g ok2
    have g0 := ok2.2.2.2.2
    have r0 := ok.2.2
    refine ev_call (fun k => limiter_Run.f k T R 65536 1 [a]) ?F (fun k => ?_) hr1 ?_
    rotate_left
    · rw [soundservicelaw08_LimiterQuiet.l1, if_neg (by omega), LimL.w64 (s := a) (by omega) (by omega)]
    · refine ev_head (fun k => limiter_Run.f k T R g 1 (List.replicate 20 0)) ?F2 (fun k => ?_) hr2 ?_
      rotate_left
      · dsimp only
        rw [if_pos (by omega)]
      · refine Ev.congr (fun k => ?_) (Ev.now _)
        dsimp only
        rw [if_pos rfl, if_pos rfl, LimL.w64 (s := 20 * R) (by omega) (by omega), LimL.w64 (s := g + 20 * R) (by omega) (by omega), hb]
        congr 1
        exact beq_iff_eq.2 rfl
  | succ d ih =>
    intro i hi hd
    have hlt : i < s.length := by omega
    have hx := hs s[i] (List.getElem_mem hlt)
    have t2 := ok.2.1
    refine Ev.step (fun k => ?_) (ih (i + 1) (by omega) (by omega))
    rw [soundservicelaw08_LimiterQuiet.l1, if_pos (by omega), if_pos (by omega), if_pos (by omega), if_pos (by omega), LimL.rd_at hlt, LimL.w64 (s := s[i]) (by omega) (by omega), if_pos rfl, LimL.w64 (s := (i : Int) + 1) (by omega) (by omega), show (i : Int) + 1 = ((i + 1 : Nat) : Int) from by omega]

theorem head {T R : Int} (ok : LimOk T R 65536) (a : Int) (a0 : 0 ≤ a) (a1 : a ≤ 4294967295) (d : Nat) :
    ∀ (i : Nat) (s l : List Int), i ≤ 10 → 10 - i = d → s.length = i → (∀ x ∈ s, -T ≤ x ∧ x ≤ T) → Dz l → Ev (fun k => soundservicelaw08_LimiterQuiet.l0 k a s (i : Int) l T R 65536) true := by
  induction d with
  | zero =>
    intro i s l hi hd hs hx _
    have t1 := ok.1
    have t2 := ok.2.1
    have hq := quiet ok s.length s (by omega) hx
    have hr : Ev (fun k => limiter_Run.f k T R 65536 1 s) (1, (outs 1 T R s.length 65536 s).1, T, R, (outs 1 T R s.length 65536 s).2, 0) := run_good (c := 1) (n := s.length) ok (by omega) (by omega) (by omega) (by omega) (fun x h => by
      have := hx x h
      omega)
    rw [hq] at hr
    refine ev_call (fun k => limiter_Run.f k T R 65536 1 s) ?F (fun k => ?_) hr ?_
    rotate_left
    · rw [soundservicelaw08_LimiterQuiet.l0, if_neg (by omega)]
    · refine Ev.congr (f := fun k => soundservicelaw08_LimiterQuiet.j1 k a s false T R 65536 1 s) (fun k => ?_) ?_
      · dsimp only
        rw [if_pos rfl, if_pos rfl, show ((s.length : Int) != (s.length : Int)) = false from by simp]
      · refine Ev.step (fun k => ?_) (tail ok a a0 a1 s (by omega) hx s.length 0 (by omega) rfl)
        rw [soundservicelaw08_LimiterQuiet.j1, if_neg (by simp)]
        rfl
  | succ d ih =>
    intro i s l hi hd hs hx hz
    have t1 := ok.1
    have t2 := ok.2.1
    obtain ⟨x, l1, e1, h1, x0, x1⟩ := sample_spec hz
    have hm : -T ≤ Int.tmod x (T + 1) ∧ Int.tmod x (T + 1) ≤ T := by
      by_cases h : 0 ≤ x
      · have p1 := Int.tmod_nonneg (T + 1) h
        have p2 := Int.tmod_lt_of_pos x (show 0 < T + 1 by omega)
        omega
      · have e : Int.tmod x (T + 1) = -(Int.tmod (-x) (T + 1)) := by rw [Int.neg_tmod, Int.neg_neg]
        have p1 := Int.tmod_nonneg (T + 1) (show 0 ≤ -x by omega)
        have p2 := Int.tmod_lt_of_pos (-x) (show 0 < T + 1 by omega)
        omega
    have h := ih (i + 1) (s ++ [Int.tmod x (T + 1)]) l1 (by omega) (by omega) (by rw [List.length_append, hs]; rfl) (fun y hy => by
      rcases List.mem_append.1 hy with hy | hy
      · exact hx y hy
      · rcases List.mem_singleton.1 hy with rfl
        exact hm) h1
    refine Ev.step (fun k => ?_) h
    rw [soundservicelaw08_LimiterQuiet.l0, if_pos (by omega), e1, Option.bind_some, LimL.w64 (s := T + 1) (by omega) (by omega), if_neg (by omega), if_pos (by omega), LimL.w64 (s := x) (by omega) (by omega), LimL.w64 (s := (i : Int) + 1) (by omega) (by omega), show (i : Int) + 1 = ((i + 1 : Nat) : Int) from by omega]

end LimiterQuietPure

open LimiterQuietPure

/-- For all bytes and numbers. -/
theorem LimiterQuiet : soundservicelaw08_LimiterQuiet.Pure := by
  intro l a _ _ hw ha
  have a1 : (0 : Int) ≤ a ∧ a ≤ 4294967295 := by
    simp [Lit.wf] at ha
    exact ha
  refine Ev.rounds (g := fun k => soundservicelaw08_LimiterQuiet.f k l a) ?_
  obtain ⟨l1, e1, h1, _⟩ := new_spec (dz_of hw)
  obtain ⟨T, R, G, l2, e2, h2, _, ok⟩ := made_spec h1
  refine ev_head (fun k => soundservicelaw08_sane.f k) (fun k t => _) (fun k => rfl) sane_ev ?_
  simp only [if_true]
  refine Ev.congr (fun k => ?_) (head ok a a1.1 a1.2 10 0 [] l2 (by omega) (by omega) rfl (fun x hx => by cases hx) h2)
  rw [e1, Option.bind_some, e2, Option.bind_some]
  rfl

end Go.Proofs.Ytempbcblakkjmaa.Pure
