/- The statement LimiterPieces over its functions: sums in parts come out as they do at once, with the same limiter after them. No condition. -/
import Derived.Test.YtempbcblakkjmaaPureDiceSums
import Derived.Test.YtempbcblakkjmaaPureSame
import Derived.Test.YtempbcblakkjmaaQP6
import Derived.Test.YtempbcblakkjmaaQP7
set_option linter.unusedVariables false
namespace Go.Proofs.Ytempbcblakkjmaa.Pure
open Go.RowKit Go.Proofs.Ytempbcblakkjmaa.QP Go.Proofs.Ytempbcblakkjmaa.LimL Go.Proofs.Ytempbcblakkjmaa.DiceL Go.Proofs.YtempbcblakkjmaaW.PrintWords Go.Proofs.YtempbcblakkjmaaW.PrintLast

namespace LimiterPiecesPure

theorem join_val {c d : Int} {a b : List Int} (ha : a.length ≤ 1000000) (hb : b.length ≤ 1000000) : soundserviceref04_Join.f c a d b = some (c, a ++ b) := by
  unfold soundserviceref04_Join.f
  rw [if_pos (by rw [List.length_nil]; omega), Option.bind_some, List.nil_append, if_pos (by omega)]

/-- Sums in two parts. -/
theorem outs_split (c : Nat) (T R : Int) (n : Nat) (k : Nat) : ∀ (G : Int) (s : List Int), outs c T R (k + n) G s = ((outs c T R k G (s.take (k * c))).1 ++ (outs c T R n (outs c T R k G (s.take (k * c))).2 (s.drop (k * c))).1, (outs c T R n (outs c T R k G (s.take (k * c))).2 (s.drop (k * c))).2) := by
  induction k with
  | zero =>
    intro G s
    simp [outs]
  | succ k ih =>
    intro G s
    have e1 : (s.take ((k + 1) * c)).take c = s.take c := by
      rw [List.take_take, Nat.min_eq_left]
      rw [Nat.add_mul, Nat.one_mul]
      omega
    have e2 : (s.take ((k + 1) * c)).drop c = (s.drop c).take (k * c) := by
      rw [List.drop_take]
      congr 1
      rw [Nat.add_mul, Nat.one_mul]
      omega
    have e3 : s.drop ((k + 1) * c) = (s.drop c).drop (k * c) := by
      rw [List.drop_drop]
      congr 1
      rw [Nat.add_mul, Nat.one_mul, Nat.add_comm]
    have h := ih (frameG T R G (s.take c)) (s.drop c)
    rw [show k + 1 + n = (k + n) + 1 from by omega]
    simp only [outs]
    rw [h, e1, e2, e3]
    simp only [List.append_assoc]

theorem loop {T R : Int} (s : List Int) (n : Nat) (hn : n ≤ 1000) (hs : s.length = n * 3) (hsm : Small s) (at_ : List Int) (hat : at_.length ≤ 10) (hz : Dz at_) (whole : List Int) (hw : whole.length = n * 3) (E : Int) (d : Nat) : ∀ (i m : Nat) (G : Int) (ys : List Int),
    at_.length + 1 - i = d → i ≤ at_.length + 1 → m ≤ n → (i = at_.length + 1 → m = n) → LimOk T R G → whole = ys ++ (outs 3 T R (n - m) G (s.drop (m * 3))).1 → E = (outs 3 T R (n - m) G (s.drop (m * 3))).2 →
    Ev (fun k => soundservicelaw08_LimiterPieces.l0 k at_ s 0 ((m * 3 : Nat) : Int) (i : Int) T R G 3 whole T R E 3 ys) true := by
  induction d with
  | zero =>
    intro i m G ys hd hi hm him hok hwh hE
    have hmn : m = n := him (by omega)
    subst hmn
    rw [Nat.sub_self] at hwh hE
    have hys : whole = ys := by rw [hwh]; simp [outs]
    have hG : E = G := hE
    subst hG hys
    refine ev_call (fun k => soundserviceref04_Same.f k 3 whole 3 whole) (fun _ t => some t) (fun k => ?_) (SameL.same_ev 3 whole (by omega)) (Ev.now _)
    rw [soundservicelaw08_LimiterPieces.l0, if_neg (by omega), if_pos rfl, if_pos (by simp)]
  | succ d ih =>
    intro i m G ys hd hi hm him hok hwh hE
    have key : ∀ p : Nat, m ≤ p → p ≤ n → (i = at_.length → p = n) → Ev (fun k => soundservicelaw08_LimiterPieces.j1 k at_ s 0 ((m * 3 : Nat) : Int) (i : Int) ((p * 3 : Nat) : Int) T R G 3 whole T R E 3 ys) true := by
      intro p hmp hpn hip
      have hpc : ((s.take (p * 3)).drop (m * 3)) = (s.drop (m * 3)).take ((p - m) * 3) := by
        rw [List.drop_take]
        congr 1
        omega
      have hpl : ((s.drop (m * 3)).take ((p - m) * 3)).length = (p - m) * 3 := by
        rw [List.length_take, List.length_drop]
        omega
      have hps : Small ((s.drop (m * 3)).take ((p - m) * 3)) := small_take (small_drop hsm _) _
      have hrun := run_good (c := 3) (n := p - m) hok (by omega) (by omega) hpl (by omega) hps
      have hsp := outs_split 3 T R (n - p) (p - m) G (s.drop (m * 3))
      rw [show p - m + (n - p) = n - m from by omega, List.drop_drop, show m * 3 + (p - m) * 3 = p * 3 from by omega] at hsp
      have hlen := outs_length (T := T) (R := R) 3 (p - m) G _ hpl
      have hheld := outs_held 3 (p - m) G _ hok hpl
      rw [hsp] at hwh hE
      have hyl : ys.length ≤ whole.length := by rw [hwh, List.length_append]; omega
      have h := ih (i + 1) p (outs 3 T R (p - m) G ((s.drop (m * 3)).take ((p - m) * 3))).2 (ys ++ (outs 3 T R (p - m) G ((s.drop (m * 3)).take ((p - m) * 3))).1) (by omega) (by omega) hpn (fun h => hip (by omega)) hheld.2 (by rw [hwh, List.append_assoc]) hE
      refine ev_call (fun k => limiter_Run.f k T R G 3 ((s.drop (m * 3)).take ((p - m) * 3))) ?gx (fun k => ?_) hrun ?_
      rotate_left
      · rw [soundservicelaw08_LimiterPieces.j1, if_pos (by omega), if_pos (by omega), if_pos (by omega), Int.toNat_natCast, Int.toNat_natCast, hpc]
      · refine Ev.congr (fun k => ?_) h
        dsimp only
        rw [if_pos rfl, join_val (by omega) (by omega), Option.bind_some, LimL.w64 (s := (i : Int) + 1) (by omega) (by omega), show (i : Int) + 1 = ((i + 1 : Nat) : Int) from by omega]
    by_cases hlt : i < at_.length
    · have hb := hz at_[i] (List.getElem_mem hlt)
      have hmd : Int.tmod at_[i] 5 = ((at_[i].toNat % 5 : Nat) : Int) := by
        obtain ⟨x, hx⟩ := Int.eq_ofNat_of_zero_le hb.1
        rw [hx, Int.toNat_natCast]
        rfl
      have hto : mn (s.length : Int) (wrap64 (((m * 3 : Nat) : Int) + (wrap64 (3 * (wrap64 (Int.tmod at_[i] 5)))))) = ((min n (m + at_[i].toNat % 5) * 3 : Nat) : Int) := by
        rw [hmd, LimL.w64 (s := ((at_[i].toNat % 5 : Nat) : Int)) (by omega) (by omega), LimL.w64 (s := 3 * ((at_[i].toNat % 5 : Nat) : Int)) (by omega) (by omega), LimL.w64 (by omega) (by omega), hs]
        unfold mn
        split <;> omega
      refine Ev.step (fun k => ?_) (key (min n (m + at_[i].toNat % 5)) (by omega) (by omega) (fun h => by omega))
      rw [soundservicelaw08_LimiterPieces.l0, if_pos (by omega), if_pos (by omega), if_pos (by omega), LimL.rd_at hlt, hto]
    · refine Ev.step (fun k => ?_) (key n hm (Nat.le_refl n) (fun _ => rfl))
      rw [soundservicelaw08_LimiterPieces.l0, if_pos (by omega), if_neg (by omega), hs]

end LimiterPiecesPure

open LimiterPiecesPure

/-- For all bytes and places. -/
theorem LimiterPieces : soundservicelaw08_LimiterPieces.Pure := by
  intro l at_ _ _ hw _ _ hw2
  refine Ev.rounds (g := fun k => soundservicelaw08_LimiterPieces.f k l at_) ?_
  refine ev_head (fun k => soundservicelaw08_sane.f k) (fun k t => _) (fun k => rfl) sane_ev ?_
  by_cases hat : (at_.length : Int) > 10
  · refine Ev.congr (fun k => ?_) (Ev.now true)
    rw [if_pos rfl, if_pos hat]
  · obtain ⟨l1, e1, h1, _⟩ := new_spec (dz_of hw)
    obtain ⟨T, R, G, l2, e2, h2, hok, _⟩ := made_spec h1
    obtain ⟨m, l3, e3, h3, m0, m1⟩ := next_spec h2 12
    obtain ⟨n, rfl⟩ := Int.eq_ofNat_of_zero_le m0
    obtain ⟨s, l4, e4, h4, hs, hsm⟩ := sums_spec h3 (n * 3) (by omega)
    have hrun := run_good (c := 3) (n := n) hok (by omega) (by omega) hs (by omega) hsm
    have hlen := outs_length (T := T) (R := R) 3 n G s hs
    refine ev_head (fun k => soundservicelaw08_sums.f k l3 ((n * 3 : Nat) : Int)) ?F (fun k => ?_) e4 ?_
    rotate_left
    · rw [if_pos rfl, if_neg hat, e1, Option.bind_some, e2, Option.bind_some]
      dsimp only
      rw [e3, Option.bind_some]
      dsimp only
      rw [LimL.w64 (s := 3 * (n : Int)) (by omega) (by omega), show 3 * (n : Int) = ((n * 3 : Nat) : Int) from by omega]
    · refine ev_head (fun k => limiter_Run.f k T R G 3 s) (fun k t => _) (fun k => rfl) hrun ?_
      have h := loop (T := T) (R := R) s n (by omega) hs hsm at_ (by omega) (dz_of hw2) (outs 3 T R n G s).1 hlen (outs 3 T R n G s).2 (at_.length + 1) 0 0 G [] (by omega) (by omega) (by omega) (fun h => by omega) hok (by rw [Nat.zero_mul, List.drop_zero, Nat.sub_zero, List.nil_append]) (by rw [Nat.zero_mul, List.drop_zero, Nat.sub_zero])
      exact h

end Go.Proofs.Ytempbcblakkjmaa.Pure
