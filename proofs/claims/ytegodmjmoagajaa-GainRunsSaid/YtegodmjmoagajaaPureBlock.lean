/- Plain laws of blocks: which are valid for the references, how many frames they have; blocks that the dice make. -/
import Derived.Test.YtegodmjmoagajaaPureGainRun
import Derived.Test.YtegodmjmoagajaaPureDice
import Derived.Test.YtegodmjmoagajaaQR6
import Derived.Test.YtegodmjmoagajaaQR6
import Derived.Test.YtegodmjmoagajaaQR4
import Derived.Test.YtegodmjmoagajaaQR4
set_option linter.unusedVariables false
set_option linter.unusedSimpArgs false
namespace Go.Proofs.Ytegodmjmoagajaa.BlockL
open Go.RowKit Go.Proofs.Ytegodmjmoagajaa.QR Go.Proofs.Ytegodmjmoagajaa.GainL Go.Proofs.Ytegodmjmoagajaa.DiceL Go.Proofs.YtegodmjmoagajaaW.PrintWords Go.Proofs.YtegodmjmoagajaaW.PrintLast

/-! ### blocks that the dice make -/
theorem bw32 {s : Int} (h0 : -2147483648 ≤ s) (h1 : s ≤ 2147483647) : wrap32 s = s := by
  unfold wrap32
  omega
theorem sample_spec {l : List Int} (h : Dz l) : ∃ x l', soundservicemade_Dice_Sample.f l = some (x, l') ∧ Dz l' ∧ InS x := by
  obtain ⟨a, l1, e1, h1, a0, a1⟩ := next_spec h 8
  unfold soundservicemade_Dice_Sample.f InS
  rw [e1, Option.bind_some]
  by_cases c0 : a = 0
  · rw [if_pos c0]
    exact ⟨_, _, rfl, h1, by omega, by omega⟩
  · rw [if_neg c0]
    by_cases c1 : a = 1
    · rw [if_pos c1]
      exact ⟨_, _, rfl, h1, by omega, by omega⟩
    · rw [if_neg c1]
      by_cases c2 : a = 2
      · rw [if_pos c2]
        exact ⟨_, _, rfl, h1, by omega, by omega⟩
      · rw [if_neg c2]
        by_cases c3 : a = 3
        · rw [if_pos c3]
          obtain ⟨b, l2, e2, h2, b0, b1⟩ := next_spec h1 256
          rw [e2, Option.bind_some]
          refine ⟨_, _, rfl, h2, ?_⟩
          rw [bw32 (s := b) (by omega) (by omega), bw32 (by omega) (by omega)]
          omega
        · rw [if_neg c3]
          obtain ⟨b, l2, e2, h2, b0, b1⟩ := next_spec h1 256
          obtain ⟨c, l3, e3, h3, g0, g1⟩ := next_spec h2 256
          obtain ⟨d, l4, e4, h4, d0, d1⟩ := next_spec h3 256
          rw [e2, Option.bind_some, e3, Option.bind_some, e4, Option.bind_some]
          refine ⟨_, _, rfl, h4, ?_⟩
          rw [bw32 (s := b) (by omega) (by omega), bw32 (s := b * 65536) (by omega) (by omega), bw32 (s := c) (by omega) (by omega), bw32 (s := c * 256) (by omega) (by omega), bw32 (s := d) (by omega) (by omega), bw32 (s := b * 65536 - 8388608) (by omega) (by omega), bw32 (s := b * 65536 - 8388608 + c * 256) (by omega) (by omega), bw32 (by omega) (by omega)]
          omega
theorem made_loop (c f : Nat) (hcf : c * f ≤ 1000000) (d : Nat) : ∀ (i : Nat) (xs l : List Int), i ≤ c * f → c * f - i = d → xs.length = i → allS xs = true → Dz l →
    ∃ ys l', Ev (fun k => soundservicemade_Block.l0 k (c : Int) (f : Int) (i : Int) l (c : Int) xs) ((c : Int), ys, l') ∧ Dz l' ∧ ys.length = c * f ∧ allS ys = true := by
  have hm : wrap64 ((c : Int) * (f : Int)) = ((c * f : Nat) : Int) := by rw [← Int.natCast_mul, w64 (by omega) (by omega)]
  induction d with
  | zero =>
    intro i xs l hi hd hx hs h
    refine ⟨xs, l, Ev.step (f := fun _ => some ((c : Int), xs, l)) (fun k => ?_) (Ev.now _), h, by omega, hs⟩
    rw [soundservicemade_Block.l0, hm, if_neg (by omega)]
  | succ d ih =>
    intro i xs l hi hd hx hs h
    obtain ⟨x, l1, e1, h1, hx1⟩ := sample_spec h
    obtain ⟨ys, l', he, hl', hy1, hy2⟩ := ih (i + 1) (xs ++ [x]) l1 (by omega) (by omega) (by rw [List.length_append, hx]; rfl) (by
      rw [allS_iff] at hs ⊢
      intro y hy
      rcases List.mem_append.1 hy with hy | hy
      · exact hs y hy
      · rcases List.mem_singleton.1 hy with rfl
        exact hx1) h1
    refine ⟨ys, l', Ev.step (fun k => ?_) he, hl', hy1, hy2⟩
    rw [soundservicemade_Block.l0, hm, if_pos (by omega), e1, Option.bind_some]
    dsimp only
    rw [if_pos (by omega), w64 (s := (i : Int) + 1) (by omega) (by omega), show (i : Int) + 1 = ((i + 1 : Nat) : Int) from by omega]
theorem made_spec {l : List Int} (h : Dz l) (c f : Nat) (hcf : c * f ≤ 1000000) : ∃ ys l', Ev (fun k => soundservicemade_Block.f k l (c : Int) (f : Int)) ((c : Int), ys, l') ∧ Dz l' ∧ ys.length = c * f ∧ allS ys = true := by
  obtain ⟨ys, l', he, h1, h2, h3⟩ := made_loop c f hcf (c * f) 0 [] l (by omega) (by omega) rfl rfl h
  exact ⟨ys, l', Ev.congr (fun k => rfl) he, h1, h2, h3⟩
theorem block_ok {c f : Nat} (c1 : 1 ≤ c) (c8 : c ≤ 8) (hf : f ≤ 65536) {l : List Int} (hl : l.length = c * f) (hs : allS l = true) : BlockOk (c : Int) l := by
  have e : l.length = f * c := by rw [hl, Nat.mul_comm]
  have hm : l.length % c = 0 := by rw [e]; exact Nat.mul_mod_left f c
  have hd : l.length / c = f := by rw [e]; exact Nat.mul_div_cancel f (by omega)
  refine ⟨by omega, by omega, ?_, ?_, hs⟩
  · rw [← Int.natCast_emod, hm]
    rfl
  · rw [← Int.natCast_ediv, hd]
    omega

/-! ### which blocks are valid for the references -/
theorem refsample_val (x : Int) : soundserviceref04_sample.f x = some (decide (InS x)) := by
  rw [← is_sample]
  rfl
theorem refvalid_loop (l : List Int) (hl : l.length ≤ 4611686018427387904) (d : Nat) : ∀ i : Nat, i ≤ l.length → l.length - i = d →
    Ev (fun k => soundserviceref04_Valid.l0 k l (l.length : Int) (i : Int)) (allS (l.drop i)) := by
  induction d with
  | zero =>
    intro i hi hd
    refine Ev.step (f := fun _ => some (allS (l.drop i))) (fun k => ?_) (Ev.now _)
    rw [soundserviceref04_Valid.l0, if_neg (by omega), List.drop_eq_nil_of_le (by omega)]
    rfl
  | succ d ih =>
    intro i hi hd
    have hlt : i < l.length := by omega
    rw [List.drop_eq_getElem_cons hlt, allS_cons]
    by_cases hx : InS l[i]
    · rw [decide_eq_true hx, Bool.true_and]
      refine Ev.step (fun k => ?_) (ih (i + 1) (by omega) (by omega))
      rw [soundserviceref04_Valid.l0, if_pos (by omega), if_pos (by omega), if_pos (by omega), GainL.rd_at hlt, refsample_val, w64 (by omega) (by omega), decide_eq_true hx]
      rw [Option.bind_some, if_pos rfl]
      rw [show (i : Int) + 1 = ((i + 1 : Nat) : Int) from by omega]
    · rw [decide_eq_false hx, Bool.false_and]
      refine Ev.step (f := fun _ => some false) (fun k => ?_) (Ev.now _)
      rw [soundserviceref04_Valid.l0, if_pos (by omega), if_pos (by omega), if_pos (by omega), GainL.rd_at hlt, refsample_val, decide_eq_false hx]
      simp
theorem refblock_ev (c : Int) (l : List Int) (hl : l.length ≤ 4611686018427387904) : Ev (fun k => soundserviceref04_Valid.f k c l) (decide (BlockOk c l)) := by
  have bad : ∀ h : ¬ BlockOk c l, Ev (fun k => soundserviceref04_Valid.j0 k true c l) (decide (BlockOk c l)) := fun h => by
    rw [decide_eq_false h]
    refine Ev.step (f := fun _ => some false) (fun k => ?_) (Ev.now _)
    rw [soundserviceref04_Valid.j0, if_pos rfl]
  by_cases h1 : c < 1
  · refine Ev.congr (fun k => ?_) (bad (fun h => by have := h.1; omega))
    unfold soundserviceref04_Valid.f
    rw [if_pos h1]
  · by_cases h2 : c > 8
    · refine Ev.congr (fun k => ?_) (bad (fun h => by have := h.2.1; omega))
      unfold soundserviceref04_Valid.f
      rw [if_neg h1, if_pos h2]
    · by_cases h3 : (l.length : Int) % c = 0
      · have hq : (l.length : Int) / c ≤ l.length := Int.ediv_le_self _ (by omega)
        have hq0 : 0 ≤ (l.length : Int) / c := Int.ediv_nonneg (by omega) (by omega)
        by_cases h4 : (l.length : Int) / c > 65536
        · refine Ev.congr (fun k => ?_) (bad (fun h => by have := h.2.2.2.1; omega))
          unfold soundserviceref04_Valid.f
          rw [if_neg h1, if_neg h2, if_neg (by omega), if_pos h3, w64 (by omega) (by omega), decide_eq_true h4]
        · have e : decide (BlockOk c l) = allS (l.drop 0) := by
            rw [List.drop_zero, Bool.eq_iff_iff, decide_eq_true_iff]
            unfold BlockOk
            exact ⟨fun h => h.2.2.2.2, fun h => ⟨by omega, by omega, h3, by omega, h⟩⟩
          rw [e]
          have hv := refvalid_loop l hl l.length 0 (by omega) (by omega)
          refine Ev.congr (f := fun k => soundserviceref04_Valid.j0 k false c l) (fun k => ?_) (Ev.step (fun k => ?_) hv)
          · unfold soundserviceref04_Valid.f
            rw [if_neg h1, if_neg h2, if_neg (by omega), if_pos h3, w64 (by omega) (by omega), decide_eq_false h4]
          · rw [soundserviceref04_Valid.j0, if_neg (by simp)]
            rfl
      · refine Ev.congr (fun k => ?_) (bad (fun h => h3 h.2.2.1))
        unfold soundserviceref04_Valid.f
        rw [if_neg h1, if_neg h2, if_neg (by omega), if_neg h3]
theorem frames_ev (c : Int) (l : List Int) (hl : l.length ≤ 4611686018427387904) : Ev (fun k => soundserviceref04_Frames.f k c l) (if BlockOk c l then (l.length : Int) / c else 0) := by
  by_cases h : BlockOk c l
  · rw [if_pos h]
    have hb := refblock_ev c l hl
    rw [decide_eq_true h] at hb
    have h1 := h.1
    have hq : (l.length : Int) / c ≤ l.length := Int.ediv_le_self _ (by omega)
    have hq0 : 0 ≤ (l.length : Int) / c := Int.ediv_nonneg (by omega) (by omega)
    refine ev_head (fun k => soundserviceref04_Valid.f k c l) (fun k t => _) (fun k => rfl) hb ?_
    refine Ev.congr (fun k => ?_) (Ev.now _)
    rw [if_pos rfl, if_neg (by omega), w64 (by omega) (by omega)]
  · rw [if_neg h]
    have hb := refblock_ev c l hl
    rw [decide_eq_false h] at hb
    refine ev_head (fun k => soundserviceref04_Valid.f k c l) (fun k t => _) (fun k => rfl) hb ?_
    refine Ev.congr (fun k => ?_) (Ev.now _)
    rw [if_neg (by simp)]

end Go.Proofs.Ytegodmjmoagajaa.BlockL
