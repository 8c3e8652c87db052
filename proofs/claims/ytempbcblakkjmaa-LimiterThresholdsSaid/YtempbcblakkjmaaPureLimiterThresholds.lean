/- The statement LimiterThresholds over its functions. No condition. -/
import Derived.Test.YtempbcblakkjmaaPureDiceSums
import Derived.Test.YtempbcblakkjmaaQ2
import Derived.Test.YtempbcblakkjmaaQ10
set_option linter.unusedVariables false
namespace Go.Proofs.Ytempbcblakkjmaa.Pure
open Go.RowKit Go.Proofs.Ytempbcblakkjmaa.Q Go.Proofs.Ytempbcblakkjmaa.LimL Go.Proofs.Ytempbcblakkjmaa.DiceL Go.Proofs.YtempbcblakkjmaaW.PrintWords Go.Proofs.YtempbcblakkjmaaW.PrintLast

namespace LimiterThresholdsPure

theorem new_val {T R : Int} (h : LimOk T R 65536) : limiter_New.f T R = some (T, R, 65536, 0) := by
  unfold limiter_New.f
  rw [valid_val, Option.bind_some, decide_eq_true h, if_pos rfl]
/-- Less, by sign. -/
def Less (x y z : Int) : Prop := (0 ≤ x → y ≤ z) ∧ (x ≤ 0 → z ≤ y)
/-- Three lists, place by place. -/
def Three (s ys zs : List Int) : Prop := ys.length = s.length ∧ zs.length = s.length ∧ ∀ i : Nat, ∀ h : i < s.length, ∀ h1 : i < ys.length, ∀ h2 : i < zs.length, Less s[i] ys[i] zs[i]
theorem three_append {a b c d e f : List Int} (h : Three a b c) (k : Three d e f) : Three (a ++ d) (b ++ e) (c ++ f) := by
  obtain ⟨h1, h2, h3⟩ := h
  obtain ⟨k1, k2, k3⟩ := k
  refine ⟨by rw [List.length_append, List.length_append, h1, k1], by rw [List.length_append, List.length_append, h2, k2], fun i p q r => ?_⟩
  by_cases hlt : i < a.length
  · rw [List.getElem_append_left hlt, List.getElem_append_left (by omega), List.getElem_append_left (by omega)]
    exact h3 i hlt _ _
  · rw [List.getElem_append_right (by omega), List.getElem_append_right (by omega), List.getElem_append_right (by omega)]
    rw [List.length_append] at p q r
    have := k3 (i - a.length) (by omega) (by omega) (by omega)
    simp only [h1, h2] at this ⊢
    exact this
theorem frames_mono {T R T2 R2 : Int} (ht : T ≤ T2) (hr : R ≤ R2) (c : Nat) (n : Nat) : ∀ (G G2 : Int) (s : List Int), LimOk T R G → LimOk T2 R2 G2 → G ≤ G2 → s.length = n * c → Three s (outs c T R n G s).1 (outs c T2 R2 n G2 s).1 := by
  induction n with
  | zero =>
    intro G G2 s _ _ _ hs
    have : s = [] := List.eq_nil_of_length_eq_zero (by omega)
    subst this
    exact ⟨rfl, rfl, fun i h => absurd h (by simp)⟩
  | succ n ih =>
    intro G G2 s ok ok2 hg hs
    rw [Nat.succ_mul] at hs
    have hn := need_mono (t := T) (u := T2) (p := peak 0 (s.take c)) ok.1 ht (peak_ge _ 0)
    have hgg : frameG T R G (s.take c) ≤ frameG T2 R2 G2 (s.take c) := by
      unfold frameG mn
      (repeat' split) <;> omega
    have h := ih (frameG T R G (s.take c)) (frameG T2 R2 G2 (s.take c)) (s.drop c) (frameG_ok ok _) (frameG_ok ok2 _) hgg (by rw [List.length_drop]; omega)
    have h1 : Three (s.take c) ((s.take c).map (outV (frameG T R G (s.take c)))) ((s.take c).map (outV (frameG T2 R2 G2 (s.take c)))) := by
      refine ⟨List.length_map _, List.length_map _, fun i p q r => ?_⟩
      rw [List.getElem_map, List.getElem_map]
      exact outV_mono (frameG_range ok _).1 hgg
    have h2 := three_append h1 h
    rw [List.take_append_drop] at h2
    exact h2
theorem loop (s ys zs : List Int) (c1 c2 : Int) (hl : s.length ≤ 1000000) (h : Three s ys zs) (d : Nat) :
    ∀ i : Nat, i ≤ s.length → s.length - i = d → Ev (fun k => soundservicelaw08_LimiterThresholds.l0 k s (s.length : Int) (i : Int) c1 ys c2 zs) true := by
  induction d with
  | zero =>
    intro i hi hd
    refine Ev.step (f := fun _ => some true) (fun k => ?_) (Ev.now _)
    rw [soundservicelaw08_LimiterThresholds.l0, if_neg (by omega)]
  | succ d ih =>
    intro i hi hd
    have hlt : i < s.length := by omega
    obtain ⟨hy, hz, hp⟩ := h
    have hp := hp i hlt (by omega) (by omega)
    obtain ⟨p1, p2⟩ := hp
    refine Ev.step (fun k => ?_) (ih (i + 1) (by omega) (by omega))
    rw [soundservicelaw08_LimiterThresholds.l0, if_pos (by omega), if_pos (by omega), if_pos (by omega), LimL.rd_at hlt, LimL.rd_at (l := ys) (i := i) (by omega), LimL.rd_at (l := zs) (i := i) (by omega), LimL.w64 (s := (i : Int) + 1) (by omega) (by omega), show (i : Int) + 1 = ((i + 1 : Nat) : Int) from by omega]
    by_cases h1 : s[i] ≥ 0
    · rw [if_pos h1, if_pos (by omega), if_pos (by omega), if_neg (by have := p1 h1; omega)]
      by_cases h2 : s[i] ≤ 0
      · rw [if_pos h2, if_neg (by have := p2 h2; omega)]
      · rw [if_neg h2]
    · rw [if_neg h1, if_pos (by omega), if_pos (by omega), if_pos (by omega), if_neg (by have := p2 (by omega); omega)]

end LimiterThresholdsPure

open LimiterThresholdsPure

/-- For all bytes and numbers. -/
theorem LimiterThresholds : soundservicelaw08_LimiterThresholds.Pure := by
  intro l a b c e _ _ hw ha hb hc he
  have a1 : (0 : Int) ≤ a ∧ a ≤ 4294967295 := by
    simp [Lit.wf] at ha
    exact ha
  have b1 : (0 : Int) ≤ b ∧ b ≤ 65535 := by
    simp [Lit.wf] at hb
    exact hb
  have c1 : (0 : Int) ≤ c ∧ c ≤ 65535 := by
    simp [Lit.wf] at hc
    exact hc
  have e1 : (0 : Int) ≤ e ∧ e ≤ 65535 := by
    simp [Lit.wf] at he
    exact he
  refine Ev.rounds (g := fun k => soundservicelaw08_LimiterThresholds.f k l a b c e) ?_
  obtain ⟨l1, g1, h1, _⟩ := new_spec (dz_of hw)
  obtain ⟨s, l4, e4, h4, hs, hsm⟩ := sums_spec h1 16 (by omega)
  obtain ⟨t, ht⟩ : ∃ t, t = 1 + Int.tmod a 4000000 := ⟨_, rfl⟩
  obtain ⟨r, hr⟩ : ∃ r, r = 1 + Int.tmod c 30000 := ⟨_, rfl⟩
  obtain ⟨q, hq⟩ : ∃ q, q = Int.tmod e 30000 := ⟨_, rfl⟩
  have tb : 1 ≤ t ∧ t ≤ 4000000 := by
    rw [ht, Int.tmod_eq_emod_of_nonneg a1.1]
    omega
  have rb : 1 ≤ r ∧ r ≤ 30000 := by
    rw [hr, Int.tmod_eq_emod_of_nonneg c1.1]
    omega
  have qb : 0 ≤ q ∧ q ≤ 29999 := by
    rw [hq, Int.tmod_eq_emod_of_nonneg e1.1]
    omega
  have ok : LimOk t r 65536 := by
    unfold LimOk
    omega
  have ok2 : LimOk (t + b) (r + q) 65536 := by
    unfold LimOk
    omega
  have hrun : Ev (fun k => limiter_Run.f k t r 65536 1 s) (1, (outs 1 t r 16 65536 s).1, t, r, (outs 1 t r 16 65536 s).2, 0) := run_good (c := 1) (n := 16) ok (by omega) (by omega) (by omega) (by omega) hsm
  have hrun2 : Ev (fun k => limiter_Run.f k (t + b) (r + q) 65536 1 s) (1, (outs 1 (t + b) (r + q) 16 65536 s).1, t + b, r + q, (outs 1 (t + b) (r + q) 16 65536 s).2, 0) := run_good (c := 1) (n := 16) ok2 (by omega) (by omega) (by omega) (by omega) hsm
  have hm := frames_mono (T := t) (R := r) (T2 := t + b) (R2 := r + q) (by omega) (by omega) 1 16 65536 65536 s ok ok2 (by omega) (by omega)
  refine ev_head (fun k => soundservicelaw08_sane.f k) (fun k t => _) (fun k => rfl) sane_ev ?_
  simp only [if_true]
  refine ev_head (fun k => soundservicelaw08_sums.f k l1 16) ?F (fun k => ?_) e4 ?_
  rotate_left
  · rw [g1, Option.bind_some]
  · dsimp only
    refine ev_head (fun k => limiter_Run.f k t r 65536 1 s) ?F2 (fun k => ?_) hrun ?_
    rotate_left
    · rw [LimL.w64 (s := a) (by omega) (by omega), LimL.w64 (s := b) (by omega) (by omega), LimL.w64 (s := c) (by omega) (by omega), LimL.w64 (s := e) (by omega) (by omega), ← ht, ← hr, ← hq, LimL.w64 (s := t) (by omega) (by omega), LimL.w64 (s := r) (by omega) (by omega), LimL.w64 (s := t + b) (by omega) (by omega), LimL.w64 (s := r + q) (by omega) (by omega), new_val ok, Option.bind_some, new_val ok2, Option.bind_some]
    refine ev_head (fun k => limiter_Run.f k (t + b) (r + q) 65536 1 s) (fun k z => _) (fun k => rfl) hrun2 ?_
    refine Ev.congr (f := fun k => soundservicelaw08_LimiterThresholds.j0 k s false 1 (outs 1 t r 16 65536 s).1 1 (outs 1 (t + b) (r + q) 16 65536 s).1) (fun k => ?_) ?_
    · dsimp only
      have z1 := hm.1
      have z2 := hm.2.1
      rw [if_pos rfl, if_pos rfl, if_pos rfl, if_pos rfl, if_pos (by omega), show (((outs 1 (t + b) (r + q) 16 65536 s).1.length : Int) != (s.length : Int)) = false from by rw [z2]; simp]
    · refine Ev.step (fun k => ?_) (loop s (outs 1 t r 16 65536 s).1 (outs 1 (t + b) (r + q) 16 65536 s).1 1 1 (by omega) hm _ 0 (by omega) rfl)
      rw [soundservicelaw08_LimiterThresholds.j0, if_neg (by simp)]
      rfl

end Go.Proofs.Ytempbcblakkjmaa.Pure
