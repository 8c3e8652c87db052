/- The statement MixtureOrder over its functions: the order of the inputs does not matter, and an input of silence or with the gain 0 changes nothing. No condition. -/
import Derived.Test.YtcnmemcclhahnaaPureMade
import Derived.Test.YtcnmemcclhahnaaPureSame
import Derived.Test.YtcnmemcclhahnaaQT27
set_option linter.unusedVariables false
namespace Go.Proofs.Ytcnmemcclhahnaa.Pure
open Go.RowKit Go.Proofs.Ytcnmemcclhahnaa.QT Go.Proofs.Ytcnmemcclhahnaa.GainL Go.Proofs.Ytcnmemcclhahnaa.MatL Go.Proofs.Ytcnmemcclhahnaa.MixL Go.Proofs.Ytcnmemcclhahnaa.MadeL Go.Proofs.Ytcnmemcclhahnaa.DiceL Go.Proofs.YtcnmemcclhahnaaW.PrintWords Go.Proofs.YtcnmemcclhahnaaW.PrintLast

namespace MixtureOrderPure

/-! ### sums in any order -/
theorem addL_comm (s : List Int) : ∀ a b : List Int, addL (addL s a) b = addL (addL s b) a := by
  induction s with
  | nil => intro a b; cases a <;> cases b <;> rfl
  | cons x s ih =>
    intro a b
    cases a with
    | nil => rw [addL_nil, addL_nil]
    | cons y a =>
      cases b with
      | nil => rw [addL_nil, addL_nil]
      | cons z b =>
        simp only [addL]
        rw [ih, show x + y + z = x + z + y from by omega]
theorem addL_zeros (s : List Int) : ∀ d : List Int, (∀ y ∈ d, y = 0) → addL s d = s := by
  induction s with
  | nil => intro d _; cases d <;> rfl
  | cons x s ih =>
    intro d h
    cases d with
    | nil => rfl
    | cons y d =>
      simp only [addL]
      rw [h y (List.mem_cons_self ..), Int.add_zero, ih d (fun z hz => h z (List.mem_cons_of_mem _ hz))]
theorem total_cons (x : S54) (l : List S54) (s : List Int) : total (x :: l) s = total l (addL s (contrib x)) := rfl
theorem total_append (a b : List S54) (s : List Int) : total (a ++ b) s = total b (total a s) := List.foldl_append ..
theorem total_add (l : List S54) : ∀ (s d : List Int), total l (addL s d) = addL (total l s) d := by
  induction l with
  | nil => intro s d; rfl
  | cons x l ih =>
    intro s d
    rw [total_cons, total_cons, addL_comm, ih]
theorem total_swap (a : List S54) : ∀ (b : List S54) (s : List Int), total a (total b s) = total b (total a s) := by
  induction a with
  | nil => intro b s; rfl
  | cons x a ih =>
    intro b s
    rw [total_cons, total_cons, ← total_add b, ih]

/-! ### silence -/
theorem applyV_zero (g : Int) : applyV 0 g = 0 := by
  unfold applyV
  split
  · rw [Int.zero_mul]
    decide
  · rfl
theorem applyV_none (x : Int) : applyV x 0 = 0 := by
  unfold applyV
  split
  · rw [Int.mul_zero]
    decide
  · rfl
theorem gain_none (i : Int) : gainAt 0 0 0 0 i = 0 := by
  unfold gainAt
  split
  · rfl
  · simp
theorem runV_zeros {F T N A : Int} {c : Nat} {l : List Int} (h : ∀ x ∈ l, x = 0) : ∀ y ∈ runV F T N A c l, y = 0 := by
  intro y hy
  obtain ⟨j, hj, rfl⟩ := List.getElem_of_mem hy
  have hj2 : j < l.length := by rw [runV_length] at hj; exact hj
  rw [runV_get hj hj2, h l[j] (List.getElem_mem hj2), applyV_zero]
theorem runV_none {c : Nat} {l : List Int} : ∀ y ∈ runV 0 0 0 0 c l, y = 0 := by
  intro y hy
  obtain ⟨j, hj, rfl⟩ := List.getElem_of_mem hy
  have hj2 : j < l.length := by rw [runV_length] at hj; exact hj
  rw [runV_get hj hj2, gain_none, applyV_none]
theorem dot_zeros (row : List Int) : ∀ (a : Int) (f : List Int), (∀ x ∈ f, x = 0) → dotFrom a row f = a := by
  induction row with
  | nil => intro a f _; rfl
  | cons r row ih =>
    intro a f h
    cases f with
    | nil => rfl
    | cons x f =>
      simp only [dotFrom]
      rw [h x (List.mem_cons_self ..), Int.mul_zero, Int.add_zero, ih a f (fun y hy => h y (List.mem_cons_of_mem _ hy))]
theorem cell_zeros {row f : List Int} (h : ∀ x ∈ f, x = 0) : cell row f = 0 := by
  unfold cell
  rw [dot_zeros row 0 f h]
  decide
theorem appl_zeros {rows : List (List Int)} {c : Nat} (n : Nat) : ∀ d : List Int, (∀ x ∈ d, x = 0) → ∀ y ∈ appl rows c n d, y = 0 := by
  induction n with
  | zero => intro d _ y hy; cases hy
  | succ n ih =>
    intro d h y hy
    rcases List.mem_append.1 hy with hy | hy
    · obtain ⟨row, _, rfl⟩ := List.mem_map.1 hy
      exact cell_zeros (fun x hx => h x (List.mem_of_mem_take hx))
    · exact ih _ (fun x hx => h x (List.mem_of_mem_drop hx)) y hy

/-! ### the two inputs -/
def silent (x : S54) : S54 := ⟨⟨x.f0.f0, List.replicate x.f0.f1.length 0⟩, ⟨x.f1.f0, x.f1.f1, x.f1.f2⟩, ⟨x.f2.f0, x.f2.f1, x.f2.f2, x.f2.f3⟩⟩
def muted (x : S54) : S54 := ⟨⟨x.f0.f0, x.f0.f1⟩, ⟨x.f1.f0, x.f1.f1, x.f1.f2⟩, ⟨0, 0, 0, 0⟩⟩
theorem silent_zero (x : S54) : ∀ y ∈ contrib (silent x), y = 0 := by
  unfold contrib
  exact runV_zeros (appl_zeros _ _ fun y hy => (List.mem_replicate.1 hy).2)
theorem muted_zero (x : S54) : ∀ y ∈ contrib (muted x), y = 0 := by
  unfold contrib
  exact runV_none
theorem silent_good {ch fr : Nat} {x : S54} (h : Fine ch fr x) : Fine ch fr (silent x) := by
  obtain ⟨⟨hb, hm, hr⟩, h2, h3, h4⟩ := errOf_zero h.1
  have hn : nF (silent x) = nF x := by
    unfold nF silent
    rw [List.length_replicate]
  have hok : InOk (silent x) := by
    refine ⟨?_, hm, hr⟩
    obtain ⟨b1, b2, b3, b4, b5⟩ := hb
    refine ⟨b1, b2, ?_, ?_, allS_iff.2 fun y hy => ?_⟩
    · show ((List.replicate x.f0.f1.length (0 : Int)).length : Int) % _ = 0
      rw [List.length_replicate]
      exact b3
    · show ((List.replicate x.f0.f1.length (0 : Int)).length : Int) / _ ≤ _
      rw [List.length_replicate]
      exact b4
    · rw [(List.mem_replicate.1 hy).2]
      decide
  refine ⟨?_, by show (List.replicate x.f0.f1.length (0 : Int)).length ≤ 1000; rw [List.length_replicate]; exact h.2.1, h.2.2⟩
  unfold errOf
  rw [if_pos hok, if_pos (show (silent x).f1.f0 = (silent x).f0.f0 ∧ (silent x).f1.f1 = (ch : Int) from ⟨h2, h3⟩), if_neg (by rw [hn]; omega)]
theorem muted_good {ch fr : Nat} {x : S54} (h : Fine ch fr x) : Fine ch fr (muted x) := by
  obtain ⟨⟨hb, hm, hr⟩, h2, h3, h4⟩ := errOf_zero h.1
  have hok : InOk (muted x) := ⟨hb, hm, by show RampOk 0 0 0 0; decide⟩
  refine ⟨?_, h.2.1, h.2.2⟩
  unfold errOf
  rw [if_pos hok, if_pos (show (muted x).f1.f0 = (muted x).f0.f0 ∧ (muted x).f1.f1 = (ch : Int) from ⟨h2, h3⟩), if_neg (by show ¬ (nF x : Int) > (fr : Int); omega)]
theorem total_other (l : List S54) (k : Nat) (x y : S54) (s : List Int) : total ([silent x] ++ l.drop k ++ [muted y] ++ l.take k) s = total l s := by
  have e1 : ∀ s, total [silent x] s = s := fun s => by
    rw [total_cons, addL_zeros _ _ (silent_zero x)]
    rfl
  have e2 : ∀ s, total [muted y] s = s := fun s => by
    rw [total_cons, addL_zeros _ _ (muted_zero y)]
    rfl
  rw [total_append, total_append, total_append, e1, e2, total_swap, ← total_append, List.take_append_drop]
theorem conds {xs : List S54} (hx : xs.length ≤ 4) {k : Nat} (hk : k ≤ xs.length) {d : List Int} (hd : d.length ≤ 1000) :
    ((d.length : Int) : Int).toNat ≤ 70368744177664 ∧ ¬ ((xs.length + 1 : Nat) : Int) = 0 ∧ (k : Int) ≤ (xs.length : Int) ∧ (∀ z : S54, [z].length + (xs.drop (k : Int).toNat).length < 1353245080339) ∧
      (∀ z u : S54, ([z] ++ xs.drop (k : Int).toNat).length + [u].length < 1353245080339) ∧ ∀ z u : S54, ([z] ++ xs.drop (k : Int).toNat ++ [u]).length + (xs.take (k : Int).toNat).length < 1353245080339 := by
  refine ⟨by omega, by omega, by omega, fun z => ?_, fun z u => ?_, fun z u => ?_⟩
  · rw [List.length_drop, List.length_singleton]
    omega
  · rw [List.length_append, List.length_drop, List.length_singleton, List.length_singleton]
    omega
  · rw [List.length_append, List.length_append, List.length_drop, List.length_singleton, List.length_singleton, List.length_take]
    omega
/-- Both mixtures, and that they are one. -/
theorem both {c fr k : Nat} (c1 : 1 ≤ c) (c8 : c ≤ 8) (hf : fr ≤ 7) {xs : List S54} (hxl : xs.length ≤ 4) (hg : ∀ x ∈ xs, Fine c fr x) {T R : Int} (hok : LimL.LimOk T R 65536) {x y : S54} (hx : Fine c fr x) (hy : Fine c fr y) :
    ∃ (b : List Int) (g : Int), b.length = fr * c ∧ Ev (fun k_ => mixture_Mix.f k_ (c : Int) (fr : Int) xs T R 65536) ((c : Int), b, T, R, g, 0) ∧ Ev (fun k_ => mixture_Mix.f k_ (c : Int) (fr : Int) ([silent x] ++ xs.drop k ++ [muted y] ++ xs.take k) T R 65536) ((c : Int), b, T, R, g, 0) := by
  have hgo : ∀ z ∈ [silent x] ++ xs.drop k ++ [muted y] ++ xs.take k, Fine c fr z := by
    intro z hz
    simp only [List.mem_append, List.mem_singleton] at hz
    rcases hz with ((hz | hz) | hz) | hz
    · rw [hz]; exact silent_good hx
    · exact hg z (List.mem_of_mem_drop hz)
    · rw [hz]; exact muted_good hy
    · exact hg z (List.mem_of_mem_take hz)
  have hlo : ([silent x] ++ xs.drop k ++ [muted y] ++ xs.take k).length ≤ 32 := by
    simp only [List.length_append, List.length_drop, List.length_take, List.length_cons, List.length_nil]
    omega
  have m1 := mixV_good (ch := c) (fr := fr) (l := xs) (T := T) (R := R) (G := 65536) c1 c8 (by omega) (by omega) hg hok
  have m2 := mixV_good (ch := c) (fr := fr) (T := T) (R := R) (G := 65536) c1 c8 (by omega) hlo hgo hok
  rw [total_other] at m2
  have htl : (total xs (List.replicate (c * fr) 0)).length = fr * c := by rw [total_length, List.length_replicate, Nat.mul_comm]
  have v1 := mix_ev (c : Int) (fr : Int) xs T R 65536 (lens_of hg)
  have v2 := mix_ev (c : Int) (fr : Int) _ T R 65536 (lens_of hgo)
  rw [m1] at v1
  rw [m2] at v2
  exact ⟨_, _, LimL.outs_length (T := T) (R := R) c fr 65536 _ htl, v1, v2⟩

end MixtureOrderPure

open MixtureOrderPure

/-- For all bytes and turns. -/
theorem MixtureOrder : soundservicelaw23_MixtureOrder.Pure := by
  intro l turn _ _ hw ht
  refine Ev.rounds (g := fun k => soundservicelaw23_MixtureOrder.f k l turn) ?_
  have ht2 : 0 ≤ turn ∧ turn ≤ 255 := by
    have h := ht
    simp [Lit.wf] at h
    exact h
  obtain ⟨l1, e1, h1, _⟩ := new_spec (dz_of hw)
  obtain ⟨a, l2, e2, h2, a0, a1⟩ := next_spec h1 3
  obtain ⟨f, l3, e3, h3, f0, f1⟩ := next_spec h2 8
  obtain ⟨an, rfl⟩ := Int.eq_ofNat_of_zero_le a0
  obtain ⟨fr, rfl⟩ := Int.eq_ofNat_of_zero_le f0
  obtain ⟨tn, rfl⟩ := Int.eq_ofNat_of_zero_le ht2.1
  obtain ⟨xs, l4, e4, h4, hxl, hg⟩ := inputs_spec h3 (ch := 1 + an) (fr := fr) (by omega) (by omega) (by omega)
  obtain ⟨T, R, l5, e5, h5, hok⟩ := limit_spec h4
  obtain ⟨x, l6, e6, h6, hx⟩ := input_spec h5 (ch := 1 + an) (fr := fr) (by omega) (by omega) (by omega)
  obtain ⟨y, l7, e7, h7, hy⟩ := input_spec h6 (ch := 1 + an) (fr := fr) (by omega) (by omega) (by omega)
  have hn4 : xs.length ≤ 4 := hxl
  have hl1 : wrap64 ((xs.length : Int) + 1) = ((xs.length + 1 : Nat) : Int) := by rw [w64 (s := (xs.length : Int) + 1) (by omega) (by omega)]; omega
  have hk : tn % (xs.length + 1) ≤ xs.length := Nat.le_of_lt_succ (Nat.mod_lt tn (Nat.succ_pos _))
  have hmod : Int.tmod (wrap64 (tn : Int)) ((xs.length + 1 : Nat) : Int) = ((tn % (xs.length + 1) : Nat) : Int) := by
    rw [w64 (s := (tn : Int)) (by omega) (by omega), Int.tmod_eq_emod_of_nonneg (by omega), ← Int.natCast_emod]
  have hw1 : wrap64 (1 + (an : Int)) = ((1 + an : Nat) : Int) := by rw [w64 (s := 1 + (an : Int)) (by omega) (by omega)]; omega
  have c1 : 1 ≤ 1 + an := Nat.le_add_right 1 an
  have c8 : 1 + an ≤ 8 := by clear hl1 hk hmod hw1; omega
  have hf3 : fr ≤ 7 := by clear hl1 hk hmod hw1; omega
  have hxd : x.f0.f1.length ≤ 1000 := hx.2.1
  generalize 1 + an = c at *
  generalize tn % (xs.length + 1) = k at *
  obtain ⟨b, g, hbl, v1, v2⟩ := both (k := k) c1 c8 hf3 hxl hg hok hx hy
  have hfc : fr * c ≤ 7 * 8 := Nat.mul_le_mul hf3 c8
  have hs := SameL.same_ev (c : Int) b (by omega)
  refine ev_head (fun k => soundservicelaw23_sane.f k) (fun k t => _) (fun k => rfl) sane_ev ?_
  refine ev_head (fun k => soundservicelaw23_made.f k l3 (c : Int) (fr : Int)) ?g1 (fun k => ?_) e4 ?_
  rotate_left
  · rw [if_pos rfl, e1, Option.bind_some, e2, Option.bind_some]
    dsimp only
    rw [e3, Option.bind_some]
    dsimp only
    rw [hw1]
  refine ev_head (fun k => soundservicemade_Input.f k l5 (c : Int) (fr : Int)) ?g2 (fun k => ?_) e6 ?_
  rotate_left
  · dsimp only
    rw [e5, Option.bind_some]
  refine ev_head (fun k => soundservicemade_Input.f k l6 (c : Int) (fr : Int)) (fun k t => _) (fun k => rfl) e7 ?_
  obtain ⟨p2, p3, q2, q3, q4, q5⟩ := conds hn4 hk hxd
  clear e1 e2 e3 e4 e5 e6 e7 h1 h2 h3 h4 h5 h6 h7 hg hx hy hok hw ht
  refine ev_head (fun k_ => mixture_Mix.f k_ (c : Int) (fr : Int) xs T R 65536) ?g3 (fun k_ => ?_) v1 ?_
  rotate_left
  · dsimp only
    rw [hl1, hmod, if_pos (Int.natCast_nonneg _), if_pos p2, if_neg p3, Option.bind_some, if_pos (Int.natCast_nonneg k), if_pos q2, Option.bind_some, if_pos (q3 _), Option.bind_some, Option.bind_some, if_pos (q4 _ _), Option.bind_some, Option.bind_some, if_pos (q5 _ _), Int.toNat_natCast, Int.toNat_natCast]
  refine ev_head (fun k_ => mixture_Mix.f k_ (c : Int) (fr : Int) ([silent x] ++ xs.drop k ++ [muted y] ++ xs.take k) T R 65536) (fun k t => _) (fun k_ => rfl) v2 ?_
  refine ev_head (fun k_ => soundserviceref04_Same.f k_ (c : Int) b (c : Int) b) (fun k t => _) (fun k_ => ?_) hs (Ev.now _)
  dsimp only
  rw [if_pos rfl, if_pos rfl, if_pos (by simp)]

end Go.Proofs.Ytcnmemcclhahnaa.Pure
