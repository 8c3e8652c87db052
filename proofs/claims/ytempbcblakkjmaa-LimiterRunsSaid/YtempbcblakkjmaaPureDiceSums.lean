/- Plain laws of the limiter's dice: samples, limiters and sums that the dice make. -/
import Derived.Test.YtempbcblakkjmaaPureDice
import Derived.Test.YtempbcblakkjmaaPureLimit
import Derived.Test.YtempbcblakkjmaaQR5
import Derived.Test.YtempbcblakkjmaaQR5
import Derived.Test.YtempbcblakkjmaaQR5
set_option linter.unusedVariables false
set_option linter.unusedSimpArgs false
namespace Go.Proofs.Ytempbcblakkjmaa.DiceL
open Go.RowKit Go.Proofs.Ytempbcblakkjmaa.QR Go.Proofs.Ytempbcblakkjmaa.LimL Go.Proofs.YtempbcblakkjmaaW.PrintWords Go.Proofs.YtempbcblakkjmaaW.PrintLast

theorem dw32 {s : Int} (h0 : -2147483648 ≤ s) (h1 : s ≤ 2147483647) : wrap32 s = s := by
  unfold wrap32
  omega
theorem sample_spec {l : List Int} (h : Dz l) : ∃ x l', soundservicemade_Dice_Sample.f l = some (x, l') ∧ Dz l' ∧ -8388608 ≤ x ∧ x ≤ 8388607 := by
  obtain ⟨a, l1, e1, h1, a0, a1⟩ := next_spec h 8
  unfold soundservicemade_Dice_Sample.f
  rw [e1, Option.bind_some]
  by_cases c0 : a = 0
  · rw [if_pos c0]
    exact ⟨_, _, rfl, h1, by omega, by omega⟩
  · rw [if_neg c0]
    by_cases c1 : a = 1
    · rw [if_pos c1]
      exact ⟨_, _, rfl, h1, by omega, by omega⟩
    · rw [if_neg c1]
      by_cases c2 : a = 2
      · rw [if_pos c2]
        exact ⟨_, _, rfl, h1, by omega, by omega⟩
      · rw [if_neg c2]
        by_cases c3 : a = 3
        · rw [if_pos c3]
          obtain ⟨b, l2, e2, h2, b0, b1⟩ := next_spec h1 256
          rw [e2, Option.bind_some]
          refine ⟨_, _, rfl, h2, ?_⟩
          rw [dw32 (s := b) (by omega) (by omega), dw32 (by omega) (by omega)]
          omega
        · rw [if_neg c3]
          obtain ⟨b, l2, e2, h2, b0, b1⟩ := next_spec h1 256
          obtain ⟨c, l3, e3, h3, g0, g1⟩ := next_spec h2 256
          obtain ⟨d, l4, e4, h4, d0, d1⟩ := next_spec h3 256
          rw [e2, Option.bind_some, e3, Option.bind_some, e4, Option.bind_some]
          refine ⟨_, _, rfl, h4, ?_⟩
          rw [dw32 (s := b) (by omega) (by omega), dw32 (s := b * 65536) (by omega) (by omega), dw32 (s := c) (by omega) (by omega), dw32 (s := c * 256) (by omega) (by omega), dw32 (s := d) (by omega) (by omega), dw32 (s := b * 65536 - 8388608) (by omega) (by omega), dw32 (s := b * 65536 - 8388608 + c * 256) (by omega) (by omega), dw32 (by omega) (by omega)]
          omega
theorem refnew_val {T R : Int} (h : LimOk T R 65536) : soundserviceref08_New.f T R = some (T, R, 65536, 0) := by
  obtain ⟨h1, h2, h3, h4, h5, h6⟩ := h
  unfold soundserviceref08_New.f soundserviceref08_Valid.f
  rw [if_pos h1, if_pos h2, if_pos h3, if_pos h4, if_pos h5, Option.bind_some, decide_eq_true h6, if_pos rfl]
theorem rd_cases4 (a b c d : Int) {x : Int} (h0 : 0 ≤ x) (h1 : x < 4) : (x = 0 ∧ rd [a, b, c, d] x = a) ∨ (x = 1 ∧ rd [a, b, c, d] x = b) ∨ (x = 2 ∧ rd [a, b, c, d] x = c) ∨ (x = 3 ∧ rd [a, b, c, d] x = d) := by
  have : x = 0 ∨ x = 1 ∨ x = 2 ∨ x = 3 := by omega
  rcases this with rfl | rfl | rfl | rfl
  · exact .inl ⟨rfl, rfl⟩
  · exact .inr (.inl ⟨rfl, rfl⟩)
  · exact .inr (.inr (.inl ⟨rfl, rfl⟩))
  · exact .inr (.inr (.inr ⟨rfl, rfl⟩))
theorem rd_cases3 (a b c : Int) {x : Int} (h0 : 0 ≤ x) (h1 : x < 3) : (x = 0 ∧ rd [a, b, c] x = a) ∨ (x = 1 ∧ rd [a, b, c] x = b) ∨ (x = 2 ∧ rd [a, b, c] x = c) := by
  have : x = 0 ∨ x = 1 ∨ x = 2 := by omega
  rcases this with rfl | rfl | rfl
  · exact .inl ⟨rfl, rfl⟩
  · exact .inr (.inl ⟨rfl, rfl⟩)
  · exact .inr (.inr ⟨rfl, rfl⟩)
theorem made_spec {l : List Int} (h : Dz l) : ∃ T R G l', soundservicelaw08_made.f l = some (T, R, G, l') ∧ Dz l' ∧ LimOk T R G ∧ LimOk T R 65536 := by
  obtain ⟨a, l1, e1, h1, a0, a1⟩ := next_spec h 4
  obtain ⟨b, l2, e2, h2, b0, b1⟩ := next_spec h1 3
  obtain ⟨c, l3, e3, h3, c0, c1⟩ := next_spec h2 4
  have ha := rd_cases4 8388607 1 100 4000000 a0 (by omega)
  have hb := rd_cases3 1 1000 65536 b0 (by omega)
  have hc := rd_cases4 65536 0 1 30000 c0 (by omega)
  have ok1 : LimOk (rd [8388607, 1, 100, 4000000] a) (rd [1, 1000, 65536] b) 65536 := by
    unfold LimOk
    omega
  have ok2 : LimOk (rd [8388607, 1, 100, 4000000] a) (rd [1, 1000, 65536] b) (rd [65536, 0, 1, 30000] c) := by
    unfold LimOk at ok1 ⊢
    omega
  refine ⟨_, _, _, l3, ?_, h3, ok2, ok1⟩
  unfold soundservicelaw08_made.f
  rw [Option.bind_some, e1, Option.bind_some, if_pos a0, if_pos (by simp only [List.length_cons, List.length_nil]; omega), Option.bind_some, e2, Option.bind_some, if_pos b0, if_pos (by simp only [List.length_cons, List.length_nil]; omega), refnew_val ok1, Option.bind_some, Option.bind_some, e3, Option.bind_some, if_pos c0, if_pos (by simp only [List.length_cons, List.length_nil]; omega)]
theorem rd_cases6 {x : Int} (h0 : 0 ≤ x) (h1 : x < 6) : -1 ≤ rd [0, 1, 1, 2, 32, (-1)] x ∧ rd [0, 1, 1, 2, 32, (-1)] x ≤ 32 := by
  have : x = 0 ∨ x = 1 ∨ x = 2 ∨ x = 3 ∨ x = 4 ∨ x = 5 := by omega
  rcases this with rfl | rfl | rfl | rfl | rfl | rfl <;> decide
theorem small_mul {x c : Int} (x0 : -8388608 ≤ x) (x1 : x ≤ 8388607) (c0 : -1 ≤ c) (c1 : c ≤ 32) : -1099511627776 ≤ x * c ∧ x * c ≤ 1099511627776 := by
  have h : x * c = (x * (c + 1)) - x := by rw [Int.mul_add, Int.mul_one]; omega
  have a : x * (c + 1) ≤ 8388608 * (c + 1) := Int.mul_le_mul_of_nonneg_right (by omega) (by omega)
  have b : (-8388608) * (c + 1) ≤ x * (c + 1) := Int.mul_le_mul_of_nonneg_right (by omega) (by omega)
  omega
theorem sums_loop (n : Nat) (hn : n ≤ 1000000) (d : Nat) : ∀ (i : Nat) (xs l : List Int), i ≤ n → n - i = d → xs.length = i → Small xs → Dz l →
    ∃ s l', Ev (fun k => soundservicelaw08_sums.l0 k (n : Int) xs (i : Int) l) (s, l') ∧ Dz l' ∧ s.length = n ∧ Small s := by
  induction d with
  | zero =>
    intro i xs l hi hd hx hs h
    refine ⟨xs, l, Ev.step (f := fun _ => some (xs, l)) (fun k => ?_) (Ev.now _), h, by omega, hs⟩
    rw [soundservicelaw08_sums.l0, if_neg (by omega)]
  | succ d ih =>
    intro i xs l hi hd hx hs h
    obtain ⟨x, l1, e1, h1, x0, x1⟩ := sample_spec h
    obtain ⟨b, l2, e2, h2, b0, b1⟩ := next_spec h1 6
    have hc := rd_cases6 b0 (by omega)
    have hm := small_mul x0 x1 hc.1 hc.2
    obtain ⟨s, l', he, hl', hs1, hs2⟩ := ih (i + 1) (xs ++ [x * rd [0, 1, 1, 2, 32, (-1)] b]) l2 (by omega) (by omega) (by rw [List.length_append, hx]; rfl) (fun y hy => by
      rcases List.mem_append.1 hy with hy | hy
      · exact hs y hy
      · rcases List.mem_singleton.1 hy with rfl
        exact hm) h2
    refine ⟨s, l', Ev.step (fun k => ?_) he, hl', hs1, hs2⟩
    rw [soundservicelaw08_sums.l0, if_pos (by omega), e1, Option.bind_some, Option.bind_some, e2, Option.bind_some, if_pos b0, if_pos (by simp only [List.length_cons, List.length_nil]; omega), if_pos (by omega), LimL.w64 (s := x) (by omega) (by omega), LimL.w64 (s := x * rd [0, 1, 1, 2, 32, (-1)] b) (by omega) (by omega), LimL.w64 (s := (i : Int) + 1) (by omega) (by omega), show (i : Int) + 1 = ((i + 1 : Nat) : Int) from by omega]
theorem sums_spec {l : List Int} (h : Dz l) (n : Nat) (hn : n ≤ 1000000) : ∃ s l', Ev (fun k => soundservicelaw08_sums.f k l (n : Int)) (s, l') ∧ Dz l' ∧ s.length = n ∧ Small s :=
  sums_loop n hn n 0 [] l (by omega) (by omega) rfl (fun x hx => by cases hx) h
theorem sane_ev : Ev (fun k => soundservicelaw08_sane.f k) true := Ev.of (fun k => soundservicelaw08_sane.mono k) (k := 12) (by decide +kernel)
end Go.Proofs.Ytempbcblakkjmaa.DiceL
