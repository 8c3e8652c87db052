/- The statement GainPieces over its functions: a block in parts comes out as it does at once, with the same ramp after it. No condition. -/
import Derived.Test.YtegodmjmoagajaaPureBlock
import Derived.Test.YtegodmjmoagajaaPureSame
import Derived.Test.YtegodmjmoagajaaPureDiceRamp
import Derived.Test.YtegodmjmoagajaaQP7
import Derived.Test.YtegodmjmoagajaaQP8
set_option linter.unusedVariables false
namespace Go.Proofs.Ytegodmjmoagajaa.Pure
open Go.RowKit Go.Proofs.Ytegodmjmoagajaa.QP Go.Proofs.Ytegodmjmoagajaa.GainL Go.Proofs.Ytegodmjmoagajaa.DiceL Go.Proofs.Ytegodmjmoagajaa.BlockL Go.Proofs.YtegodmjmoagajaaW.PrintWords Go.Proofs.YtegodmjmoagajaaW.PrintLast

namespace GainPiecesPure

theorem sane_true : soundservicelaw05_sane.f = some true := by decide +kernel
theorem rd49 {ps : List S49} {i : Nat} (h : i < ps.length) : rd_T49 ps (i : Int) = ps[i] := by
  simp [rd_T49, List.getD_eq_getElem?_getD, h]

/-- Parts of a list of samples, each of whole frames. -/
def Parts (c : Nat) : List S49 → List Int → Prop
  | [], l => l = []
  | p :: ps, l => ∃ m : Nat, m ≤ 65536 ∧ m * c ≤ l.length ∧ p.f0 = (c : Int) ∧ p.f1 = l.take (m * c) ∧ Parts c ps (l.drop (m * c))

theorem cut_loop {c n : Nat} {l : List Int} (c8 : c ≤ 8) (hn : n ≤ 65536) (hl : l.length = n * c) (at_ : List Int) (hat : at_.length ≤ 10) (hz : Dz at_) (d : Nat) : ∀ (i lo : Nat) (ps : List S49), i ≤ at_.length → at_.length - i = d → ps.length ≤ i → lo ≤ n →
    ∃ qs, Ev (fun k => soundservicemade_Cut.l0 k ps (lo : Int) (n : Int) at_ (at_.length : Int) (i : Int) (c : Int) l) (ps ++ qs) ∧ Parts c qs (l.drop (lo * c)) ∧ qs.length ≤ d + 1 := by
  induction d with
  | zero =>
    intro i lo ps hi hd hp hlo
    refine ⟨[⟨(c : Int), (l.drop (lo * c)).take ((n - lo) * c)⟩], Ev.step (f := fun _ => some _) (fun k => ?_) (Ev.now _), ?_, by simp⟩
    · rw [soundservicemade_Cut.l0, if_neg (by omega), cut_val c8 hn hl hlo (Nat.le_refl n), Option.bind_some]
      dsimp only
      rw [if_pos (by omega)]
    · have e : (n - lo) * c = (l.drop (lo * c)).length := by rw [List.length_drop, hl, Nat.mul_sub_right_distrib]
      refine ⟨n - lo, by omega, by omega, rfl, rfl, ?_⟩
      rw [e, List.drop_length]
      rfl
  | succ d ih =>
    intro i lo ps hi hd hp hlo
    have hlt : i < at_.length := by omega
    have hb := hz at_[i] (List.getElem_mem hlt)
    have hm : Int.tmod at_[i] 8 = ((at_[i].toNat % 8 : Nat) : Int) := by
      obtain ⟨x, hx⟩ := Int.eq_ofNat_of_zero_le hb.1
      rw [hx, Int.toNat_natCast]
      rfl
    have hto : wrap64 ((lo : Int) + Int.tmod (wrap64 at_[i]) 8) = ((lo + at_[i].toNat % 8 : Nat) : Int) := by
      rw [w64 (s := at_[i]) (by omega) (by omega), hm, w64 (by omega) (by omega)]
      omega
    by_cases hc : lo + at_[i].toNat % 8 ≤ n
    · obtain ⟨qs, he, hq, hql⟩ := ih (i + 1) (lo + at_[i].toNat % 8) (ps ++ [⟨(c : Int), (l.drop (lo * c)).take ((lo + at_[i].toNat % 8 - lo) * c)⟩]) (by omega) (by omega) (by rw [List.length_append]; simp; omega) hc
      refine ⟨⟨(c : Int), (l.drop (lo * c)).take ((lo + at_[i].toNat % 8 - lo) * c)⟩ :: qs, ?_, ?_, by simp; omega⟩
      · rw [List.append_assoc] at he
        refine Ev.step (fun k => ?_) he
        rw [soundservicemade_Cut.l0, if_pos (by omega), if_pos (by omega), if_pos (by omega), GainL.rd_at hlt, hto, if_pos (by omega), cut_val c8 hn hl (by omega) hc, Option.bind_some]
        dsimp only
        rw [if_pos (by omega), w64 (s := (i : Int) + 1) (by omega) (by omega), show (i : Int) + 1 = ((i + 1 : Nat) : Int) from by omega]
      · have a1 : (lo + at_[i].toNat % 8) * c ≤ n * c := Nat.mul_le_mul_right c hc
        have e : (lo + at_[i].toNat % 8 - lo) * c = (lo + at_[i].toNat % 8) * c - lo * c := Nat.mul_sub_right_distrib _ _ _
        have a2 : lo * c ≤ (lo + at_[i].toNat % 8) * c := Nat.mul_le_mul_right c (by omega)
        refine ⟨lo + at_[i].toNat % 8 - lo, by omega, by rw [List.length_drop, hl, e]; omega, rfl, rfl, ?_⟩
        rw [List.drop_drop, e, Nat.add_sub_cancel' a2]
        exact hq
    · obtain ⟨qs, he, hq, hql⟩ := ih (i + 1) lo ps (by omega) (by omega) (by omega) hlo
      refine ⟨qs, Ev.step (fun k => ?_) he, hq, by omega⟩
      rw [soundservicemade_Cut.l0, if_pos (by omega), if_pos (by omega), if_pos (by omega), GainL.rd_at hlt, hto, if_neg (by omega), w64 (s := (i : Int) + 1) (by omega) (by omega), show (i : Int) + 1 = ((i + 1 : Nat) : Int) from by omega]

theorem cut_ev {c n : Nat} {l : List Int} (c1 : 1 ≤ c) (c8 : c ≤ 8) (hn : n ≤ 65536) (hl : l.length = n * c) (hb : BlockOk (c : Int) l) (at_ : List Int) (hat : at_.length ≤ 10) (hz : Dz at_) : ∃ qs, Ev (fun k => soundservicemade_Cut.f k (c : Int) l at_) qs ∧ Parts c qs l ∧ qs.length ≤ 11 := by
  obtain ⟨qs, he, hq, hql⟩ := cut_loop c8 hn hl at_ hat hz at_.length 0 0 [] (by omega) (by omega) (by simp) (by omega)
  rw [Nat.zero_mul, List.drop_zero] at hq
  refine ⟨qs, ?_, hq, by omega⟩
  have a3 : n * c ≤ 65536 * 8 := Nat.mul_le_mul hn c8
  have hf := frames_ev (c : Int) l (by omega)
  have hd : (l.length : Int) / (c : Int) = (n : Int) := by
    rw [← Int.natCast_ediv, hl, Nat.mul_div_cancel n (by omega)]
  rw [if_pos hb, hd] at hf
  exact ev_head (fun k => soundserviceref04_Frames.f k (c : Int) l) (fun k t => _) (fun k => rfl) hf he

theorem loop {F T N : Int} {c : Nat} (c1 : 1 ≤ c) (c8 : c ≤ 8) (whole : List Int) (hw : whole.length ≤ 1000) (ps : List S49) (hps : ps.length ≤ 11) (E : Int) (d : Nat) : ∀ (i m : Nat) (A : Int) (ys rest : List Int), i ≤ ps.length → ps.length - i = d →
    RampOk F T N A → Parts c (ps.drop i) rest → rest.length = m * c → allS rest = true → whole = ys ++ runV F T N A c rest → E = later N A (m : Int) →
    Ev (fun k => soundservicelaw05_GainPieces.l0 k 0 ps (ps.length : Int) (i : Int) F T N A (c : Int) whole F T N E (c : Int) ys) true := by
  induction d with
  | zero =>
    intro i m A ys rest hi hd hr hp hm hs hwh hE
    rw [List.drop_eq_nil_of_le (by omega)] at hp
    have hp : rest = [] := hp
    subst hp
    have hm0 : m = 0 := by
      have h : m * c = 0 := hm.symm
      rcases Nat.mul_eq_zero.1 h with h | h <;> omega
    subst hm0
    have hE2 : E = A := by
      rw [hE]
      obtain ⟨f0, f1, t0, t1, n0, n1, a0, a1⟩ := hr
      unfold later mn
      split <;> omega
    have hys : whole = ys := by rw [hwh]; simp [runV]
    subst hE2 hys
    refine ev_call (fun k => soundserviceref04_Same.f k (c : Int) whole (c : Int) whole) (fun _ t => some t) (fun k => ?_) (SameL.same_ev (c : Int) whole (by omega)) (Ev.now _)
    rw [soundservicelaw05_GainPieces.l0, if_neg (by omega), if_pos rfl, if_pos (by simp)]
  | succ d ih =>
    intro i m A ys rest hi hd hr hp hm hs hwh hE
    have hlt : i < ps.length := by omega
    rw [List.drop_eq_getElem_cons hlt] at hp
    obtain ⟨q, hq, hqr, h0, h1, hp2⟩ := hp
    have hlen : (rest.take (q * c)).length = q * c := by rw [List.length_take]; omega
    have hsp := allS_iff.1 hs
    have hs1 : allS (rest.take (q * c)) = true := allS_iff.2 fun x hx => hsp x (List.mem_of_mem_take hx)
    have hs2 : allS (rest.drop (q * c)) = true := allS_iff.2 fun x hx => hsp x (List.mem_of_mem_drop hx)
    have hb : BlockOk (c : Int) (rest.take (q * c)) := block_ok c1 c8 hq (by rw [hlen, Nat.mul_comm]) hs1
    have hqm : q ≤ m := by
      rw [hm] at hqr
      exact Nat.le_of_mul_le_mul_right hqr (by omega)
    have hrun := run_ev F T N A (c : Int) (rest.take (q * c)) (by rw [hlen]; have := Nat.mul_le_mul hq c8; omega)
    have hdv : (((rest.take (q * c)).length : Nat) : Int) / (c : Int) = (q : Int) := by
      rw [hlen, ← Int.natCast_ediv, Nat.mul_div_cancel q (by omega)]
    rw [if_pos ⟨hr, hb⟩, Int.toNat_natCast, hdv] at hrun
    have hsplit : runV F T N A c rest = runV F T N A c (rest.take (q * c)) ++ runV F T N (later N A (q : Int)) c (rest.drop (q * c)) := by
      rw [← runV_append hr c1 q hlen, List.take_append_drop]
    have hylen : ys.length + (runV F T N A c rest).length = whole.length := by rw [hwh, List.length_append]
    rw [runV_length] at hylen
    have h := ih (i + 1) (m - q) (later N A (q : Int)) (ys ++ runV F T N A c (rest.take (q * c))) (rest.drop (q * c)) (by omega) (by omega) (later_ok hr (by omega)) hp2 (by rw [List.length_drop, hm, Nat.mul_sub_right_distrib]) hs2 (by rw [hwh, hsplit, List.append_assoc]) (by rw [hE, later_later (by omega) (by omega)]; congr 1; omega)
    refine ev_call (fun k => gain_Run.f k F T N A (c : Int) (rest.take (q * c))) ?gx (fun k => ?_) hrun ?_
    rotate_left
    · rw [soundservicelaw05_GainPieces.l0, if_pos (by omega), if_pos (by omega), if_pos (by omega), rd49 hlt, h0, h1]
    · refine Ev.congr (fun k => ?_) h
      dsimp only
      rw [if_pos rfl, join_val (by omega) (by rw [runV_length, hlen]; omega), Option.bind_some, w64 (s := (i : Int) + 1) (by omega) (by omega), show (i : Int) + 1 = ((i + 1 : Nat) : Int) from by omega]

end GainPiecesPure

open GainPiecesPure

/-- For all bytes and places. -/
theorem GainPieces : soundservicelaw05_GainPieces.Pure := by
  intro l at_ _ _ hw _ _ hw2
  refine Ev.rounds (g := fun k => soundservicelaw05_GainPieces.f k l at_) ?_
  by_cases hat : (at_.length : Int) > 10
  · refine Ev.congr (fun k => ?_) (Ev.now true)
    unfold soundservicelaw05_GainPieces.f
    rw [sane_true, Option.bind_some, if_pos rfl, if_pos hat]
  · obtain ⟨l1, e1, h1, _⟩ := new_spec (dz_of hw)
    obtain ⟨F, T, N, A, l2, e2, h2, hr, _⟩ := ramp_spec h1
    obtain ⟨c, l3, e3, h3, c0, c1⟩ := next_spec h2 2
    obtain ⟨f, l4, e4, h4, f0, f1⟩ := next_spec h3 25
    obtain ⟨cn, rfl⟩ := Int.eq_ofNat_of_zero_le c0
    obtain ⟨fn, rfl⟩ := Int.eq_ofNat_of_zero_le f0
    have hcf : (1 + cn) * fn ≤ 2 * 24 := Nat.mul_le_mul (by omega) (by omega)
    obtain ⟨xs, l5, e5, h5, hx, hs⟩ := made_spec h4 (1 + cn) fn (by omega)
    have hb := block_ok (c := 1 + cn) (f := fn) (by omega) (by omega) (by omega) hx hs
    have hx' : xs.length = fn * (1 + cn) := by rw [hx, Nat.mul_comm]
    obtain ⟨qs, e6, h6, h7⟩ := cut_ev (by omega) (by omega) (by omega) hx' hb at_ (by omega) (dz_of hw2)
    have hrun := run_ev F T N A ((1 + cn : Nat) : Int) xs (by omega)
    have hdv : ((xs.length : Nat) : Int) / ((1 + cn : Nat) : Int) = (fn : Int) := by
      rw [hx', ← Int.natCast_ediv, Nat.mul_div_cancel fn (by omega)]
    rw [if_pos ⟨hr, hb⟩, Int.toNat_natCast, hdv] at hrun
    have h := loop (F := F) (T := T) (N := N) (c := 1 + cn) (by omega) (by omega) (runV F T N A (1 + cn) xs) (by rw [runV_length]; omega) qs h7 (later N A (fn : Int)) qs.length 0 fn A [] xs (by omega) (by omega) hr h6 hx' hs rfl rfl
    refine ev_head (fun k => soundservicemade_Block.f k l4 ((1 + cn : Nat) : Int) (fn : Int)) ?fx (fun k => ?_) e5 ?_
    rotate_left
    · unfold soundservicelaw05_GainPieces.f
      rw [sane_true, Option.bind_some, if_pos rfl, if_neg hat, e1, Option.bind_some, e2, Option.bind_some]
      dsimp only
      rw [e3, Option.bind_some]
      dsimp only
      rw [e4, Option.bind_some]
      dsimp only
      rw [w64 (s := 1 + (cn : Int)) (by omega) (by omega), show 1 + (cn : Int) = ((1 + cn : Nat) : Int) from by omega]
    · refine ev_head (fun k => gain_Run.f k F T N A ((1 + cn : Nat) : Int) xs) (fun k t => _) (fun k => rfl) hrun ?_
      refine ev_head (fun k => soundservicemade_Cut.f k ((1 + cn : Nat) : Int) xs at_) (fun k t => _) (fun k => rfl) e6 ?_
      exact h

end Go.Proofs.Ytegodmjmoagajaa.Pure
