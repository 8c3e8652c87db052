/- The statement MixtureAlone over its functions: one input with the identity, the gain 1 and a limiter that it does not reach comes out as it is, two lists of inputs add up, and no output is above the threshold. No condition. -/
import Derived.Test.YtcnmemcclhahnaaPureMade
import Derived.Test.YtcnmemcclhahnaaPureSame
import Derived.Test.YtcnmemcclhahnaaQT36
set_option linter.unusedVariables false
namespace Go.Proofs.Ytcnmemcclhahnaa.Pure
open Go.RowKit Go.Proofs.Ytcnmemcclhahnaa.BlockL Go.Proofs.Ytcnmemcclhahnaa.QT Go.Proofs.Ytcnmemcclhahnaa.GainL Go.Proofs.Ytcnmemcclhahnaa.MatL Go.Proofs.Ytcnmemcclhahnaa.MixL Go.Proofs.Ytcnmemcclhahnaa.MadeL Go.Proofs.Ytcnmemcclhahnaa.DiceL Go.Proofs.YtcnmemcclhahnaaW.PrintWords Go.Proofs.YtcnmemcclhahnaaW.PrintLast

namespace MixtureAlonePure

/-! ### sums add up -/
theorem addL_comm (s : List Int) : ∀ a b : List Int, addL (addL s a) b = addL (addL s b) a := by
  induction s with
  | nil => intro a b; cases a <;> cases b <;> rfl
  | cons x s ih =>
    intro a b
    cases a with
    | nil => rw [addL_nil, addL_nil]
    | cons y a =>
      cases b with
      | nil => rw [addL_nil, addL_nil]
      | cons z b =>
        simp only [addL]
        rw [ih, show x + y + z = x + z + y from by omega]
theorem addL_zero (d : List Int) : ∀ n : Nat, d.length = n → addL (List.replicate n 0) d = d := by
  induction d with
  | nil => intro n h; cases n with
    | zero => rfl
    | succ n => simp at h
  | cons y d ih =>
    intro n h
    cases n with
    | zero => simp at h
    | succ n =>
      simp only [List.replicate_succ, addL]
      rw [ih n (by simpa using h), Int.zero_add]
theorem addL_get (s : List Int) : ∀ (d : List Int) (i : Nat) (h : i < (addL s d).length) (h1 : i < s.length) (h2 : i < d.length), (addL s d)[i] = s[i] + d[i] := by
  induction s with
  | nil => intro d i h h1; exact absurd h1 (by simp)
  | cons x s ih =>
    intro d i h h1 h2
    cases d with
    | nil => exact absurd h2 (by simp)
    | cons y d =>
      cases i with
      | zero => rfl
      | succ i =>
        simp only [addL, List.getElem_cons_succ]
        exact ih d i _ (by simpa using h1) (by simpa using h2)
theorem total_cons (x : S54) (l : List S54) (s : List Int) : total (x :: l) s = total l (addL s (contrib x)) := rfl
theorem total_append (a b : List S54) (s : List Int) : total (a ++ b) s = total b (total a s) := List.foldl_append ..
theorem total_add (l : List S54) : ∀ (s d : List Int), total l (addL s d) = addL (total l s) d := by
  induction l with
  | nil => intro s d; rfl
  | cons x l ih =>
    intro s d
    rw [total_cons, total_cons, addL_comm, ih]
theorem total_both (l m : List S54) (n : Nat) : total (l ++ m) (List.replicate n 0) = addL (total m (List.replicate n 0)) (total l (List.replicate n 0)) := by
  have h := total_add m (List.replicate n 0) (total l (List.replicate n 0))
  rw [addL_zero _ n (by rw [total_length, List.length_replicate])] at h
  rw [total_append, h]

/-! ### the identity, the gain 1 -/
theorem cell_one {r : List Int} {f : List Int} {x : Int} (h : dotFrom 0 r f = 32768 * x) (hx : InS x) : cell r f = x := by
  unfold cell
  rw [h]
  have h1 := hx.1
  have h2 := hx.2
  unfold satV mx mn
  (repeat' split) <;> omega
theorem ident {c : Nat} (c1 : 1 ≤ c) (c3 : c ≤ 3) (n : Nat) : ∀ d : List Int, d.length = n * c → (∀ x ∈ d, InS x) → appl (rowsV c c (idL c)) c n d = d := by
  have hc : c = 1 ∨ c = 2 ∨ c = 3 := by omega
  induction n with
  | zero =>
    intro d hd _
    have : d = [] := List.eq_nil_of_length_eq_zero (by omega)
    subst this
    rfl
  | succ n ih =>
    intro d hd hs
    rw [Nat.succ_mul] at hd
    have hrec := ih (d.drop c) (by rw [List.length_drop]; omega) (fun x hx => hs x (List.mem_of_mem_drop hx))
    rw [appl, hrec]
    have hm : ((rowsV c c (idL c)).map fun row => cell row (d.take c)) = d.take c := by
      rcases hc with rfl | rfl | rfl
      · match d, hd, hs with
        | [], hd, _ => simp at hd
        | x :: d, hd, hs =>
          show [cell [32768] [x]] = [x]
          rw [cell_one (r := [32768]) (f := [x]) (x := x) (by simp only [dotFrom]; omega) (hs x (List.mem_cons_self ..))]
      · match d, hd, hs with
        | [], hd, _ => simp at hd
        | [x], hd, _ => simp at hd
        | x :: y :: d, hd, hs =>
          show [cell [32768, 0] [x, y], cell [0, 32768] [x, y]] = [x, y]
          rw [cell_one (r := [32768, 0]) (f := [x, y]) (x := x) (by simp only [dotFrom]; omega) (hs x (List.mem_cons_self ..)), cell_one (r := [0, 32768]) (f := [x, y]) (x := y) (by simp only [dotFrom]; omega) (hs y (List.mem_cons_of_mem _ (List.mem_cons_self ..)))]
      · match d, hd, hs with
        | [], hd, _ => simp at hd
        | [x], hd, _ => simp at hd
        | [x, y], hd, _ => simp at hd
        | x :: y :: z :: d, hd, hs =>
          show [cell [32768, 0, 0] [x, y, z], cell [0, 32768, 0] [x, y, z], cell [0, 0, 32768] [x, y, z]] = [x, y, z]
          rw [cell_one (r := [32768, 0, 0]) (f := [x, y, z]) (x := x) (by simp only [dotFrom]; omega) (hs x (List.mem_cons_self ..)), cell_one (r := [0, 32768, 0]) (f := [x, y, z]) (x := y) (by simp only [dotFrom]; omega) (hs y (List.mem_cons_of_mem _ (List.mem_cons_self ..))), cell_one (r := [0, 0, 32768]) (f := [x, y, z]) (x := z) (by simp only [dotFrom]; omega) (hs z (List.mem_cons_of_mem _ (List.mem_cons_of_mem _ (List.mem_cons_self ..))))]
    rw [hm, List.take_append_drop]
theorem gain_one {x : Int} (hx : InS x) : applyV x 65536 = x := by
  have h1 := hx.1
  have h2 := hx.2
  unfold applyV
  rw [if_pos (by omega)]
  unfold satV mx mn
  (repeat' split) <;> omega
theorem runV_one {c : Nat} {l : List Int} (hs : ∀ x ∈ l, InS x) : runV 65536 65536 0 0 c l = l := by
  apply List.ext_getElem
  · rw [runV_length]
  · intro j h1 h2
    rw [runV_get h1 h2, gainAt_end (show (0 : Int) - 0 ≤ ((j / c : Nat) : Int) from Int.natCast_nonneg _), gain_one (hs _ (List.getElem_mem h2))]

/-! ### a limiter that is not reached -/
theorem quiet {T R : Int} (ok : LimL.LimOk T R 65536) {c : Nat} (n : Nat) : ∀ s : List Int, s.length = n * c → (∀ x ∈ s, -T ≤ x ∧ x ≤ T) → LimL.outs c T R n 65536 s = (s, 65536) := by
  have t1 := ok.1
  have t2 := ok.2.1
  have r1 := ok.2.2.1
  induction n with
  | zero =>
    intro s hs _
    have : s = [] := List.eq_nil_of_length_eq_zero (by omega)
    subst this
    rfl
  | succ n ih =>
    intro s hs hx
    rw [Nat.succ_mul] at hs
    have hg : LimL.frameG T R 65536 (s.take c) = 65536 := by
      have hp : LimL.peak 0 (s.take c) ≤ T := LimL.peak_le (s.take c) 0 T (by omega) (fun y hy => hx y (List.mem_of_mem_take hy))
      unfold LimL.frameG LimL.need mn
      rw [if_pos hp, if_neg (by omega)]
    have ho : (s.take c).map (LimL.outV 65536) = s.take c := by
      apply List.ext_getElem
      · rw [List.length_map]
      · intro j h1 h2
        rw [List.getElem_map]
        have hb := hx _ (List.mem_of_mem_take (List.getElem_mem h2))
        generalize (s.take c)[j] = x at hb
        have e : Int.tdiv (x * 65536) 65536 = x := Int.mul_tdiv_cancel x (by omega)
        unfold LimL.outV
        rw [e]
        unfold mx mn
        (repeat' split) <;> omega
    have h := ih (s.drop c) (by rw [List.length_drop]; omega) (fun y hy => hx y (List.mem_of_mem_drop hy))
    show ((s.take c).map (LimL.outV (LimL.frameG T R 65536 (s.take c))) ++ (LimL.outs c T R n (LimL.frameG T R 65536 (s.take c)) (s.drop c)).1, (LimL.outs c T R n (LimL.frameG T R 65536 (s.take c)) (s.drop c)).2) = (s, 65536)
    rw [hg, h, ho, List.take_append_drop]

/-! ### the one input -/
def clamp (d : List Int) : List Int := d.map fun s => mx s (-8388607)
theorem clamp_range {d : List Int} (hs : allS d = true) : ∀ x ∈ clamp d, -8388607 ≤ x ∧ x ≤ 8388607 := by
  intro x hx
  obtain ⟨y, hy, rfl⟩ := List.mem_map.1 hx
  have h1 := (allS_iff.1 hs y hy).1
  have h2 := (allS_iff.1 hs y hy).2
  unfold mx
  split <;> omega
theorem clamp_ok {d : List Int} (hs : allS d = true) : allS (clamp d) = true := allS_iff.2 fun x hx => by
  have := clamp_range hs x hx
  exact ⟨by omega, by omega⟩
def single (c : Nat) (d : List Int) : S54 := ⟨⟨(c : Int), d⟩, ⟨(c : Int), (c : Int), idL c⟩, ⟨65536, 65536, 0, 0⟩⟩
theorem single_fine {c f : Nat} (c1 : 1 ≤ c) (c3 : c ≤ 3) (hf : f ≤ 7) {d : List Int} (hd : d.length = c * f) (hs : allS d = true) : Fine c f (single c d) :=
  good_of (ch := c) (fr := f) (c := c) (n := f) c1 (by omega) (Nat.le_refl _) (by omega) hd hs c1 (by omega) (idUp_length c c) (idL_ok c) (by decide)
theorem single_contrib {c f : Nat} (c1 : 1 ≤ c) (c3 : c ≤ 3) {d : List Int} (hd : d.length = c * f) (hs : allS d = true) : contrib (single c d) = d := by
  have hs2 := allS_iff.1 hs
  have hn : nF (single c d) = f := by
    unfold nF
    show d.length / (c : Int).toNat = f
    rw [hd, Int.toNat_natCast, Nat.mul_div_cancel_left f (by omega)]
  unfold contrib
  rw [hn]
  show runV 65536 65536 0 0 (c : Int).toNat (appl (rowsV (c : Int).toNat (c : Int).toNat (idL c)) (c : Int).toNat f d) = d
  rw [Int.toNat_natCast, ident c1 c3 f d (by rw [hd, Nat.mul_comm]) hs2, runV_one hs2]
theorem single_mix {c f : Nat} (c1 : 1 ≤ c) (c3 : c ≤ 3) (hf : f ≤ 7) {d : List Int} (hd : d.length = c * f) (hs : allS d = true) :
    Ev (fun k => mixture_Mix.f k (c : Int) (f : Int) [single c (clamp d)] 8388607 1 65536) ((c : Int), clamp d, 8388607, 1, 65536, 0) := by
  have hcl : (clamp d).length = c * f := by unfold clamp; rw [List.length_map, hd]
  have hg : ∀ x ∈ [single c (clamp d)], Fine c f x := fun x hx => by
    rw [List.mem_singleton.1 hx]
    exact single_fine c1 c3 hf hcl (clamp_ok hs)
  have hok : LimL.LimOk 8388607 1 65536 := by unfold LimL.LimOk; omega
  have m := mixV_good (ch := c) (fr := f) (T := 8388607) (R := 1) (G := 65536) c1 (by omega) (by omega) (show ([single c (clamp d)] : List S54).length ≤ 32 by simp) hg hok
  have ht : total [single c (clamp d)] (List.replicate (c * f) 0) = clamp d := by
    rw [total_cons, single_contrib c1 c3 hcl (clamp_ok hs), addL_zero _ _ hcl]
    rfl
  have hr : ∀ x ∈ clamp d, -(8388607 : Int) ≤ x ∧ x ≤ 8388607 := clamp_range hs
  rw [ht, quiet hok f (clamp d) (by rw [hcl, Nat.mul_comm]) hr] at m
  have v := mix_ev (c : Int) (f : Int) [single c (clamp d)] 8388607 1 65536 (lens_of hg)
  rw [m] at v
  exact v
theorem clamp_step {d : List Int} {i : Nat} (h : i < d.length) : ((clamp d).take i ++ d.drop i).set i (mx d[i] (-8388607)) = (clamp d).take (i + 1) ++ d.drop (i + 1) := by
  have hl : ((clamp d).take i).length = i := by unfold clamp; rw [List.length_take, List.length_map]; omega
  have hc : i < (clamp d).length := by unfold clamp; rw [List.length_map]; exact h
  have he : (clamp d)[i] = mx d[i] (-8388607) := by simp [clamp]
  rw [List.set_append, if_neg (by omega), hl, Nat.sub_self, List.drop_eq_getElem_cons h, List.set_cons_zero, List.take_succ_eq_append_getElem hc, he, List.append_assoc]
  rfl
theorem clamp_at {d : List Int} {i : Nat} (h : i < d.length) : rd ((clamp d).take i ++ d.drop i) (i : Int) = d[i] := by
  have hl : ((clamp d).take i).length = i := by unfold clamp; rw [List.length_take, List.length_map]; omega
  have h1 : i < ((clamp d).take i ++ d.drop i).length := by rw [List.length_append, hl, List.length_drop]; omega
  rw [GainL.rd_at h1, List.getElem_append_right (by omega), List.getElem_drop]
  congr 1
  omega
theorem first_loop {d : List Int} (hd : d.length ≤ 1000000) {C F c1 i1 o1 r1 r2 r3 r4 : Int} {co rest : List Int} {r : Bool}
    (h : Ev (fun k => soundservicelaw23_MixtureAlone.l0 k C F (d.length : Int) (d.length : Int) rest c1 (clamp d) i1 o1 co r1 r2 r3 r4) r) (n : Nat) : ∀ i : Nat, i ≤ d.length → d.length - i = n →
    Ev (fun k => soundservicelaw23_MixtureAlone.l0 k C F (d.length : Int) (i : Int) rest c1 ((clamp d).take i ++ d.drop i) i1 o1 co r1 r2 r3 r4) r := by
  induction n with
  | zero =>
    intro i hi hn
    have : i = d.length := by omega
    subst this
    rw [List.drop_length, List.append_nil, List.take_of_length_le (by unfold clamp; rw [List.length_map]; exact Nat.le_refl _)]
    exact h
  | succ n ih =>
    intro i hi hn
    have hlt : i < d.length := by omega
    have hll : ((clamp d).take i ++ d.drop i).length = d.length := by unfold clamp; rw [List.length_append, List.length_take, List.length_map, List.length_drop]; omega
    refine Ev.step (fun k => ?_) (ih (i + 1) (by omega) (by omega))
    rw [soundservicelaw23_MixtureAlone.l0, if_pos (by omega), if_pos (by omega), hll, if_pos (by omega), clamp_at hlt, Int.toNat_natCast, clamp_step hlt, w64 (s := (i : Int) + 1) (by omega) (by omega), show (i : Int) + 1 = ((i + 1 : Nat) : Int) from by omega]

/-! ### the last loop -/
theorem last_loop {C F T R G ch : Int} {b : List Int} (hb : b.length ≤ 1000000) (hT : T ≤ 8388607) (h : ∀ x ∈ b, -T ≤ x ∧ x ≤ T) (hl : (b.length : Int) = wrap64 (C * F)) (n : Nat) : ∀ i : Nat, i ≤ b.length → b.length - i = n →
    Ev (fun k => soundservicelaw23_MixtureAlone.l2 k C F 0 (b.length : Int) (i : Int) T R G ch b) true := by
  induction n with
  | zero =>
    intro i hi hn
    refine Ev.step (f := fun _ => some true) (fun k => ?_) (Ev.now _)
    rw [soundservicelaw23_MixtureAlone.l2, if_neg (by clear hl; omega), if_pos rfl, ← hl]
    exact congrArg some (by simp)
  | succ n ih =>
    intro i hi hn
    have hlt : i < b.length := by omega
    have hx := h b[i] (List.getElem_mem hlt)
    have hw := GainL.rd_at hlt
    generalize b[i] = x at hx hw
    have hr := ih (i + 1) (by omega) (by omega)
    clear ih hl h
    have e1 : wrap64 x = x := w64 (by omega) (by omega)
    have e2 : wrap64 (wrap32 (-x)) = -x := by
      rw [bw32 (by omega) (by omega), w64 (by omega) (by omega)]
    have e3 : wrap64 ((i : Int) + 1) = ((i + 1 : Nat) : Int) := by
      rw [w64 (by omega) (by omega)]
      rfl
    have q1 : (i : Int) < (b.length : Int) := Int.ofNat_lt.2 hlt
    have q2 : ¬ x > T := by clear e1 e2 e3; omega
    have q3 : ¬ -x > T := by clear e1 e2 e3; omega
    refine Ev.step (fun k => ?_) hr
    rw [soundservicelaw23_MixtureAlone.l2, if_pos q1, if_pos (Int.natCast_nonneg i), if_pos q1, hw, e1, if_neg q2, e2, if_neg q3, e3]

/-! ### the second loop -/
theorem sums_loop {C F : Int} {l : List S54} {p q : List Int} (hpq : q.length = p.length) (hp : p.length ≤ 1000000) (sp : LimL.Small p) (sq : LimL.Small q) {rest : List Int}
    (h : Ev (fun k => soundservicelaw23_MixtureAlone.l1 k C F l p q (addL q p) ((addL q p).length : Int) (p.length : Int) rest) true) (n : Nat) : ∀ i : Nat, i ≤ p.length → p.length - i = n →
    Ev (fun k => soundservicelaw23_MixtureAlone.l1 k C F l p q (addL q p) ((addL q p).length : Int) (i : Int) rest) true := by
  have hrl : (addL q p).length = p.length := by rw [addL_length, hpq]
  induction n with
  | zero =>
    intro i hi hn
    have : i = p.length := by omega
    subst this
    exact h
  | succ n ih =>
    intro i hi hn
    have h1 : i < p.length := by omega
    have h2 : i < q.length := by omega
    have h3 : i < (addL q p).length := by omega
    have b1 := sp p[i] (List.getElem_mem h1)
    have b2 := sq q[i] (List.getElem_mem h2)
    have e := addL_get q p i h3 h2 h1
    have g1 := GainL.rd_at h1
    have g2 := GainL.rd_at h2
    have g3 := GainL.rd_at h3
    have hr := ih (i + 1) (by omega) (by omega)
    have q1 : (i : Int) < ((addL q p).length : Int) := Int.ofNat_lt.2 h3
    have q2 : (i : Int) < (p.length : Int) := Int.ofNat_lt.2 h1
    have q3 : (i : Int) < (q.length : Int) := Int.ofNat_lt.2 h2
    rw [e] at g3
    generalize p[i] = x at *
    generalize q[i] = y at *
    have e1 : wrap64 (x + y) = y + x := by
      rw [w64 (by omega) (by omega), Int.add_comm]
    have e3 : wrap64 ((i : Int) + 1) = ((i + 1 : Nat) : Int) := by
      rw [w64 (by omega) (by omega)]
      rfl
    refine Ev.step (fun k => ?_) hr
    rw [soundservicelaw23_MixtureAlone.l1, if_pos q1, if_pos (Int.natCast_nonneg i), if_pos q1, if_pos q2, if_pos q3, g1, g2, g3, e1, if_pos rfl, e3]

end MixtureAlonePure

open MixtureAlonePure

/-- For all bytes. -/
theorem MixtureAlone : soundservicelaw23_MixtureAlone.Pure := by
  intro l _ _ hw
  refine Ev.rounds (g := fun k => soundservicelaw23_MixtureAlone.f k l) ?_
  obtain ⟨l1, e1, h1, _⟩ := new_spec (dz_of hw)
  obtain ⟨a, l2, e2, h2, a0, a1⟩ := next_spec h1 3
  obtain ⟨f, l3, e3, h3, f0, f1⟩ := next_spec h2 8
  obtain ⟨an, rfl⟩ := Int.eq_ofNat_of_zero_le a0
  obtain ⟨fr, rfl⟩ := Int.eq_ofNat_of_zero_le f0
  have c1 : 1 ≤ 1 + an := Nat.le_add_right 1 an
  have c3 : 1 + an ≤ 3 := by omega
  have hf : fr ≤ 7 := by omega
  have hw1 : wrap64 (1 + (an : Int)) = ((1 + an : Nat) : Int) := by rw [w64 (s := 1 + (an : Int)) (by omega) (by omega)]; omega
  generalize 1 + an = c at *
  have hcf : c * fr ≤ 3 * 7 := Nat.mul_le_mul c3 hf
  obtain ⟨d, l4, e4, h4, hd, hs⟩ := made_spec h3 c fr (by clear hw1; omega)
  obtain ⟨xs, l5, e5, h5, hxl, hg⟩ := inputs_spec h4 (ch := c) (fr := fr) c1 (by clear hw1; omega) (by clear hw1; omega)
  obtain ⟨ys, l6, e6, h6, hyl, hgy⟩ := inputs_spec h5 (ch := c) (fr := fr) c1 (by clear hw1; omega) (by clear hw1; omega)
  obtain ⟨T, R, l7, e7, h7, hok⟩ := limit_spec h6
  have hi := identity_ev (n := c) c1 (by clear hw1; omega)
  have hcl : (clamp d).length = c * fr := by unfold clamp; rw [List.length_map, hd]
  have hgb : ∀ z ∈ xs ++ ys, Fine c fr z := fun z hz => by
    rcases List.mem_append.1 hz with h | h
    · exact hg z h
    · exact hgy z h
  have c8 : c ≤ 8 := by clear hw1; omega
  have f6 : fr ≤ 65536 := by clear hw1; omega
  have hl4 : xs.length ≤ 32 := by clear hw1; omega
  have hm4 : ys.length ≤ 32 := by clear hw1; omega
  have hb4 : (xs ++ ys).length ≤ 32 := by clear hw1; rw [List.length_append]; omega
  have v1 := sum_ev (c : Int) (fr : Int) xs (lens_of hg)
  have v2 := sum_ev (c : Int) (fr : Int) ys (lens_of hgy)
  have v3 := sum_ev (c : Int) (fr : Int) (xs ++ ys) (lens_of hgb)
  rw [sumV_good c1 c8 f6 hl4 hg] at v1
  rw [sumV_good c1 c8 f6 hm4 hgy] at v2
  rw [sumV_good c1 c8 f6 hb4 hgb, total_both] at v3
  have v4 := mix_ev (c : Int) (fr : Int) xs T R 65536 (lens_of hg)
  rw [mixV_good (ch := c) (fr := fr) (T := T) (R := R) (G := 65536) c1 c8 f6 hl4 hg hok] at v4
  have t1 : (total xs (List.replicate (c * fr) 0)).length = c * fr := by rw [total_length, List.length_replicate]
  have t2 : (total ys (List.replicate (c * fr) 0)).length = c * fr := by rw [total_length, List.length_replicate]
  have s1 := total_small hl4 (c * fr)
  have s2 := total_small hm4 (c * fr)
  have hhe := (LimL.outs_held (T := T) (R := R) c fr 65536 _ hok (show (total xs (List.replicate (c * fr) 0)).length = fr * c by rw [t1, Nat.mul_comm])).1
  have hol := LimL.outs_length (T := T) (R := R) c fr 65536 _ (show (total xs (List.replicate (c * fr) 0)).length = fr * c by rw [t1, Nat.mul_comm])
  have hcfw : wrap64 ((c : Int) * (fr : Int)) = ((c * fr : Nat) : Int) := by
    clear hw1
    rw [← Int.natCast_mul, w64 (by omega) (by omega)]
  have hsm := single_mix c1 c3 hf hd hs
  have hsa := SameL.same_ev (c : Int) (clamp d) (by clear hw1 hcfw; omega)
  have hbm : ∀ y ∈ (LimL.outs c T R fr 65536 (total xs (List.replicate (c * fr) 0))).1, -T ≤ y ∧ y ≤ T := fun y hy => by
    obtain ⟨j, hj, rfl⟩ := List.getElem_of_mem hy
    have := hhe.2 j (by rw [hhe.1]; exact hj) hj
    exact ⟨this.1, this.2.1⟩
  generalize (LimL.outs c T R fr 65536 (total xs (List.replicate (c * fr) 0))).2 = g2 at v4
  generalize (LimL.outs c T R fr 65536 (total xs (List.replicate (c * fr) 0))).1 = b at v4 hol hbm hhe
  clear hhe
  generalize total xs (List.replicate (c * fr) 0) = p at *
  generalize total ys (List.replicate (c * fr) 0) = q at *
  have hTb := hok.2.1
  have hpq : q.length = p.length := by rw [t1, t2]
  have hbl : (b.length : Int) = wrap64 ((c : Int) * (fr : Int)) := by rw [hcfw, hol, Nat.mul_comm]
  have hlast := last_loop (C := (c : Int)) (F := (fr : Int)) (T := T) (R := R) (G := 65536) (ch := (c : Int)) (b := b) (by clear hw1 hcfw hbl; rw [hol, Nat.mul_comm]; omega) hTb hbm hbl b.length 0 (Nat.zero_le _) rfl
  have hrl : (addL q p).length = p.length := by rw [addL_length, hpq]
  have hmid : Ev (fun k => soundservicelaw23_MixtureAlone.l1 k (c : Int) (fr : Int) xs p q (addL q p) ((addL q p).length : Int) (p.length : Int) l6) true := by
    refine ev_call (fun k => mixture_Mix.f k (c : Int) (fr : Int) xs T R 65536) ?gx (fun k => ?_) v4 ?_
    rotate_left
    · rw [soundservicelaw23_MixtureAlone.l1, if_neg (by rw [hrl]; exact Int.lt_irrefl _), e7, Option.bind_some]
    · exact hlast
  have hsum := sums_loop (C := (c : Int)) (F := (fr : Int)) (l := xs) hpq (by clear hw1 hcfw hbl; omega) s1 s2 hmid p.length 0 (Nat.zero_le _) rfl
  have hnew : soundserviceref08_New.f 8388607 1 = some (8388607, 1, 65536, 0) := by decide +kernel
  have hmain : Ev (fun k => soundservicelaw23_MixtureAlone.l0 k (c : Int) (fr : Int) (d.length : Int) (d.length : Int) l4 (c : Int) (clamp d) (c : Int) (c : Int) (idL c) 65536 65536 0 0) true := by
    have n1 : ([] : List S54).length + xs.length < 1353245080339 := by
      clear hw1 hcfw hbl
      rw [List.length_nil]
      omega
    have n2 : ([] ++ xs : List S54).length + ys.length < 1353245080339 := by
      clear hw1 hcfw hbl
      rw [List.nil_append]
      omega
    have n3 : (p.length : Int) = ((c * fr : Nat) : Int) := congrArg _ t1
    have n4 : (q.length : Int) = ((c * fr : Nat) : Int) := congrArg _ t2
    have n5 : (((addL q p).length : Int) != ((c * fr : Nat) : Int)) = false := bne_eq_false_iff_eq.mpr (by rw [hrl]; exact n3)
    have hj : Ev (fun k => soundservicelaw23_MixtureAlone.j1 k (c : Int) (fr : Int) xs p q (addL q p) false l6) true := by
      refine Ev.step (fun k => ?_) hsum
      rw [soundservicelaw23_MixtureAlone.j1, if_neg (by simp)]
      rfl
    clear hw1 hbl hol hsum hmid hlast hg hgy hgb hw e1 e2 e3 h1 h2 h3 h4 h5 h6 h7 hd hs hi e4 v4 hbm
    refine ev_call (fun k => mixture_Mix.f k (c : Int) (fr : Int) [single c (clamp d)] 8388607 1 65536) ?g1 (fun k => ?_) hsm ?_
    rotate_left
    · rw [soundservicelaw23_MixtureAlone.l0, if_neg (Int.lt_irrefl _), hnew, Option.bind_some]
      rfl
    refine ev_head (fun k => soundservicelaw23_made.f k l4 (c : Int) (fr : Int)) (fun k t => _) (fun k => rfl) e5 ?_
    refine ev_head (fun k => soundservicelaw23_made.f k l5 (c : Int) (fr : Int)) (fun k t => _) (fun k => rfl) e6 ?_
    refine ev_head (fun k => mixture_Sum.f k (c : Int) (fr : Int) xs) (fun k t => _) (fun k => rfl) v1 ?_
    refine ev_head (fun k => mixture_Sum.f k (c : Int) (fr : Int) ys) (fun k t => _) (fun k => rfl) v2 ?_
    refine ev_head (fun k => mixture_Sum.f k (c : Int) (fr : Int) (xs ++ ys)) ?g2 (fun k => ?_) v3 ?_
    rotate_left
    · dsimp only
      rw [if_pos n1, Option.bind_some, if_pos n2, List.nil_append]
    refine ev_head (fun k => soundserviceref04_Same.f k (c : Int) (clamp d) (c : Int) (clamp d)) ?g3 (fun k => ?_) hsa ?_
    rotate_left
    · dsimp only
      rw [if_pos rfl]
    refine Ev.congr (fun k => ?_) hj
    rw [if_pos rfl, if_pos rfl, if_pos rfl, if_pos rfl, hcfw, if_pos n3, if_pos n4, n5]
  have hloop := first_loop (d := d) (by clear hw1 hcfw hbl; omega) hmain d.length 0 (Nat.zero_le _) rfl
  refine ev_head (fun k => soundservicelaw23_sane.f k) (fun k t => _) (fun k => rfl) sane_ev ?_
  refine ev_head (fun k => soundserviceref07_Identity.f k (c : Int)) ?g4 (fun k => ?_) hi ?_
  rotate_left
  · rw [if_pos rfl, e1, Option.bind_some, e2, Option.bind_some]
    dsimp only
    rw [e3, Option.bind_some]
    dsimp only
    rw [hw1]
  refine ev_head (fun k => soundservicemade_Block.f k l3 (c : Int) (fr : Int)) (fun k t => _) (fun k => rfl) e4 ?_
  exact Ev.congr (fun k => rfl) hloop

end Go.Proofs.Ytcnmemcclhahnaa.Pure
