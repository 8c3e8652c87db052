/- Plain laws of the reference's ramps over blocks: they are the program's. -/
import Derived.Test.YtegodmjmoagajaaPureGainAt
import Derived.Test.YtegodmjmoagajaaPureBlock
import Derived.Test.YtegodmjmoagajaaQR6
import Derived.Test.YtegodmjmoagajaaQR7
set_option linter.unusedVariables false
set_option linter.unusedSimpArgs false
namespace Go.Proofs.Ytegodmjmoagajaa.BlockL
open Go.RowKit Go.Proofs.Ytegodmjmoagajaa.QR Go.Proofs.Ytegodmjmoagajaa.GainL Go.Proofs.YtegodmjmoagajaaW.PrintWords Go.Proofs.YtegodmjmoagajaaW.PrintLast

theorem refapply_val {s : Int} (hs : InS s) (g : Int) : soundserviceref05_Apply.f s g = some (applyV s g) := by
  have h1 := hs.1
  have h2 := hs.2
  rw [← apply_val]
  unfold soundserviceref05_Apply.f gain_Apply.f
  rw [w64 (s := s) (by omega) (by omega)]
  rfl
theorem refrun_loop {F T N A : Int} (hr : RampOk F T N A) {c : Nat} {l : List Int} (hb : BlockOk (c : Int) l) (hl : l.length ≤ 1000000) (d : Nat) : ∀ i : Nat, i ≤ l.length → l.length - i = d →
    Ev (fun k => soundserviceref05_Run.l0 k l (l.length : Int) (i : Int) F T N A (c : Int) l (c : Int) ((runV F T N A c l).take i)) ((c : Int), runV F T N A c l, F, T, N, later N A ((l.length : Int) / (c : Int)), 0) := by
  have hb' := hb
  obtain ⟨c1, c8, hm, hq, hs⟩ := hb'
  obtain ⟨f0, f1, t0, t1, n0, n1, a0, a1⟩ := id hr
  have hq0 : 0 ≤ (l.length : Int) / (c : Int) := Int.ediv_nonneg (by omega) (by omega)
  induction d with
  | zero =>
    intro i hi hd
    have hf := frames_ev (c : Int) l (by omega)
    rw [if_pos hb] at hf
    refine ev_call (fun k => soundserviceref04_Frames.f k (c : Int) l) ?fx (fun k => ?_) hf ?_
    rotate_left
    · rw [soundserviceref05_Run.l0, if_neg (by omega), List.take_of_length_le (by rw [runV_length]; omega)]
    · refine Ev.congr (fun k => ?_) (Ev.now _)
      rw [w64 (s := A + (l.length : Int) / (c : Int)) (by omega) (by omega)]
      rfl
  | succ d ih =>
    intro i hi hd
    have hlt : i < l.length := by omega
    have hx := allS_iff.1 hs l[i] (List.getElem_mem hlt)
    have hdv : wrap64 (Int.tdiv (i : Int) (c : Int)) = ((i / c : Nat) : Int) := by
      rw [Int.tdiv_eq_ediv_of_nonneg (by omega), ← Int.natCast_ediv, w64 (by have := Int.natCast_nonneg (i / c); omega) (by have := Nat.div_le_self i c; omega)]
    have hat := refat_ev F T N A ((i / c : Nat) : Int)
    rw [if_pos (show RampOk F T N A ∧ 0 ≤ ((i / c : Nat) : Int) from ⟨hr, Int.natCast_nonneg _⟩)] at hat
    have hjr : i < (runV F T N A c l).length := by
      rw [runV_length]
      exact hlt
    refine ev_call (fun k => soundserviceref05_At.f k F T N A ((i / c : Nat) : Int)) ?gx (fun k => ?_) hat ?_
    rotate_left
    · rw [soundserviceref05_Run.l0, if_pos (by omega), if_pos (by omega), if_pos (by omega), if_neg (by omega), hdv]
    · refine Ev.congr (fun k => ?_) (ih (i + 1) (by omega) (by omega))
      rw [GainL.rd_at hlt, refapply_val hx, Option.bind_some, if_pos (by rw [List.length_take, runV_length]; omega), w64 (s := (i : Int) + 1) (by omega) (by omega), show (i : Int) + 1 = ((i + 1 : Nat) : Int) from by omega, List.take_succ_eq_append_getElem hjr, runV_get hjr hlt]
theorem refrun_ev (F T N A c : Int) (l : List Int) (hl : l.length ≤ 1000000) :
    Ev (fun k => soundserviceref05_Run.f k F T N A c l) (if RampOk F T N A ∧ BlockOk c l then (c, runV F T N A c.toNat l, F, T, N, later N A ((l.length : Int) / c), 0) else (0, [], 0, 0, 0, 0, 1)) := by
  have bad : ¬ (RampOk F T N A ∧ BlockOk c l) → Ev (fun k => soundserviceref05_Run.j0 k true F T N A c l) (if RampOk F T N A ∧ BlockOk c l then (c, runV F T N A c.toNat l, F, T, N, later N A ((l.length : Int) / c), 0) else (0, [], 0, 0, 0, 0, 1)) := fun h => by
    rw [if_neg h]
    refine Ev.step (f := fun _ => some (0, [], 0, 0, 0, 0, 1)) (fun k => ?_) (Ev.now _)
    rw [soundserviceref05_Run.j0, if_pos rfl]
  by_cases hr : RampOk F T N A
  · have hb2 := refblock_ev c l (by omega)
    refine Ev.congr (f := fun k => (soundserviceref04_Valid.f k c l).bind fun t => soundserviceref05_Run.j0 k (!t) F T N A c l) (fun k => ?_) (Ev.bind hb2 ?_)
    · unfold soundserviceref05_Run.f
      rw [refvalid_val, Option.bind_some, if_pos (by simpa using hr)]
    · by_cases hb : BlockOk c l
      · rw [decide_eq_true hb, if_pos ⟨hr, hb⟩]
        have c1 := hb.1
        obtain ⟨cn, rfl⟩ := Int.eq_ofNat_of_zero_le (show 0 ≤ c by omega)
        refine Ev.step (fun k => ?_) (refrun_loop hr hb hl l.length 0 (by omega) (by omega))
        rw [soundserviceref05_Run.j0, if_neg (by simp), List.take_zero]
        rfl
      · rw [decide_eq_false hb]
        exact bad (fun h => hb h.2)
  · refine Ev.congr (f := fun k => soundserviceref05_Run.j0 k true F T N A c l) (fun k => ?_) (bad (fun h => hr h.1))
    unfold soundserviceref05_Run.f
    rw [refvalid_val, Option.bind_some, if_neg (by simpa using hr)]
end Go.Proofs.Ytegodmjmoagajaa.BlockL
