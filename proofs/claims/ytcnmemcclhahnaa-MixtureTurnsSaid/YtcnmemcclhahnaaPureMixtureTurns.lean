/- The statement MixtureTurns over its functions: turning the channels of the output, by turning the rows of all matrices, turns the mixture alike, and leaves the limiter as it is. No condition. -/
import Derived.Test.YtcnmemcclhahnaaPureMade
import Derived.Test.YtcnmemcclhahnaaQT16
set_option linter.unusedVariables false
namespace Go.Proofs.Ytcnmemcclhahnaa.Pure
open Go.RowKit Go.Proofs.Ytcnmemcclhahnaa.QT Go.Proofs.Ytcnmemcclhahnaa.GainL Go.Proofs.Ytcnmemcclhahnaa.MatL Go.Proofs.Ytcnmemcclhahnaa.MixL Go.Proofs.Ytcnmemcclhahnaa.MadeL Go.Proofs.Ytcnmemcclhahnaa.DiceL Go.Proofs.YtcnmemcclhahnaaW.PrintWords Go.Proofs.YtcnmemcclhahnaaW.PrintLast

namespace MixtureTurnsPure

/-! ### turned lists -/
def rot {α : Type} (k : Nat) (l : List α) : List α := l.drop k ++ l.take k
theorem rot_length {α : Type} (k : Nat) (l : List α) : (rot k l).length = l.length := by
  unfold rot
  rw [List.length_append, List.length_drop, List.length_take]
  omega
theorem rot_map {α β : Type} (f : α → β) (k : Nat) (l : List α) : rot k (l.map f) = (rot k l).map f := by
  unfold rot
  rw [List.map_append, List.map_drop, List.map_take]
theorem rot_mem {α : Type} {k : Nat} {l : List α} {x : α} : x ∈ rot k l ↔ x ∈ l := by
  unfold rot
  rw [List.mem_append]
  constructor
  · rintro (h | h)
    · exact List.mem_of_mem_drop h
    · exact List.mem_of_mem_take h
  · intro h
    rw [← List.take_append_drop k l, List.mem_append] at h
    exact h.symm
theorem rot_get {k c : Nat} {l : List Int} (hl : l.length = c) (hk : k < c) {i : Nat} (hi : i < c) : ∃ h1 : i < (rot k l).length, ∃ h2 : (i + k) % c < l.length, (rot k l)[i] = l[(i + k) % c] := by
  refine ⟨by rw [rot_length]; omega, by rw [hl]; exact Nat.mod_lt _ (by omega), ?_⟩
  unfold rot
  by_cases h : i < (l.drop k).length
  · rw [List.getElem_append_left h, List.getElem_drop]
    rw [List.length_drop] at h
    congr 1
    rw [Nat.mod_eq_of_lt (by omega)]
    omega
  · rw [List.getElem_append_right (by omega), List.getElem_take]
    rw [List.length_drop] at h
    congr 1
    rw [List.length_drop, Nat.mod_eq_sub_mod (by omega), Nat.mod_eq_of_lt (by omega)]
    omega
/-- Each frame turned. -/
def rotF (c k : Nat) : Nat → List Int → List Int
  | 0, _ => []
  | n + 1, l => rot k (l.take c) ++ rotF c k n (l.drop c)
theorem rotF_length (c k n : Nat) : ∀ l : List Int, l.length = n * c → (rotF c k n l).length = n * c := by
  induction n with
  | zero => intro l h; simp [rotF]
  | succ n ih =>
    intro l h
    have h2 : (n + 1) * c = n * c + c := Nat.succ_mul n c
    rw [rotF, List.length_append, rot_length, ih _ (by rw [List.length_drop]; omega), List.length_take]
    omega
theorem rotF_append {c k n : Nat} {f l : List Int} (hf : f.length = c) : rotF c k (n + 1) (f ++ l) = rot k f ++ rotF c k n l := by
  rw [rotF, List.take_left' hf, List.drop_left' hf]
theorem rotF_get {c k : Nat} (hk : k < c) (n : Nat) : ∀ (l : List Int) (i : Nat), l.length = n * c → i < n * c → ∃ h1 : i < (rotF c k n l).length, ∃ h2 : i / c * c + (i % c + k) % c < l.length, (rotF c k n l)[i] = l[i / c * c + (i % c + k) % c] := by
  induction n with
  | zero => intro l i hl hi; omega
  | succ n ih =>
    intro l i hl hi
    have h2 : (n + 1) * c = n * c + c := Nat.succ_mul n c
    have htl : (l.take c).length = c := by rw [List.length_take]; omega
    have hln : (rotF c k (n + 1) l).length = (n + 1) * c := rotF_length c k (n + 1) l hl
    have hmod : (i % c + k) % c < c := Nat.mod_lt _ (by omega)
    have hdiv : i / c ≤ n := by
      have : i / c < n + 1 := Nat.div_lt_of_lt_mul (by rw [Nat.mul_comm]; exact hi)
      omega
    have hdm : i / c * c ≤ n * c := Nat.mul_le_mul_right c hdiv
    refine ⟨by omega, by omega, ?_⟩
    by_cases hc : i < c
    · obtain ⟨h3, h4, h5⟩ := rot_get (k := k) htl hk hc
      have e1 : i / c = 0 := Nat.div_eq_of_lt hc
      have e2 : i % c = i := Nat.mod_eq_of_lt hc
      have : (rotF c k (n + 1) l)[i] = (rot k (l.take c))[i] := by
        simp only [rotF]
        rw [List.getElem_append_left h3]
      rw [this, h5, List.getElem_take]
      congr 1
      rw [e1, e2]
      omega
    · obtain ⟨h3, h4, h5⟩ := ih (l.drop c) (i - c) (by rw [List.length_drop]; omega) (by omega)
      have hi2 : i = (i - c) + c := by omega
      have e1 : i / c = (i - c) / c + 1 := by
        rw [hi2, Nat.add_div_right _ (by omega)]
        simp
      have e2 : i % c = (i - c) % c := by rw [hi2, Nat.add_mod_right]; simp
      have hrl : (rot k (l.take c)).length = c := by rw [rot_length]; exact htl
      have : (rotF c k (n + 1) l)[i] = (rotF c k n (l.drop c))[i - c] := by
        simp only [rotF]
        rw [List.getElem_append_right (by omega)]
        simp only [hrl]
      rw [this, h5, List.getElem_drop]
      congr 1
      rw [e1, e2, Nat.add_mul, Nat.one_mul]
      omega

/-! ### turned rows -/
theorem rowsV_append {i a b : Nat} {u v : List Int} (hu : u.length = a * i) : rowsV i (a + b) (u ++ v) = rowsV i a u ++ rowsV i b v := by
  unfold rowsV
  rw [List.range_add, List.map_append, List.map_map]
  congr 1
  · apply List.map_congr_left
    intro r hr
    have hr := List.mem_range.1 hr
    have h1 : (r + 1) * i ≤ a * i := Nat.mul_le_mul_right i (by omega)
    have h2 : (r + 1) * i = r * i + i := by rw [Nat.add_mul, Nat.one_mul]
    rw [List.drop_append_of_le_length (by omega), List.take_append_of_le_length (by rw [List.length_drop]; omega)]
  · apply List.map_congr_left
    intro r hr
    show ((u ++ v).drop ((a + r) * i)).take i = (v.drop (r * i)).take i
    rw [Nat.add_mul, ← hu, List.drop_append]
    congr 1
    rw [List.drop_eq_nil_of_le (by omega), List.nil_append]
    congr 1
    omega
theorem rowsV_rot {i o k : Nat} {l : List Int} (hl : l.length = i * o) (hk : k ≤ o) : rowsV i o (l.drop (k * i) ++ l.take (k * i)) = rot k (rowsV i o l) := by
  have h1 : k * i ≤ o * i := Nat.mul_le_mul_right i hk
  have h3 : o * i = i * o := Nat.mul_comm o i
  have h4 : (o - k) * i = o * i - k * i := Nat.mul_sub_right_distrib o k i
  have hu : (l.take (k * i)).length = k * i := by rw [List.length_take]; omega
  have hv : (l.drop (k * i)).length = (o - k) * i := by rw [List.length_drop]; omega
  have e1 : rowsV i o l = rowsV i k (l.take (k * i)) ++ rowsV i (o - k) (l.drop (k * i)) := by
    rw [← rowsV_append hu, List.take_append_drop, show k + (o - k) = o from by omega]
  have e2 : rowsV i o (l.drop (k * i) ++ l.take (k * i)) = rowsV i (o - k) (l.drop (k * i)) ++ rowsV i k (l.take (k * i)) := by
    rw [← rowsV_append hv, show o - k + k = o from by omega]
  rw [e2, e1]
  unfold rot
  rw [List.drop_left' (rowsV_length _ _ _), List.take_left' (rowsV_length _ _ _)]
theorem appl_rot {rows : List (List Int)} {c k : Nat} (n : Nat) : ∀ d : List Int, appl (rot k rows) c n d = rotF rows.length k n (appl rows c n d) := by
  induction n with
  | zero => intro d; rfl
  | succ n ih =>
    intro d
    rw [appl, appl, rotF_append (by rw [List.length_map]), ih, rot_map]
theorem runV_frame {F T N A : Int} {c : Nat} {f : List Int} (hf : f.length = c) : runV F T N A c f = f.map fun x => applyV x (gainAt F T N A 0) := by
  unfold runV
  apply List.ext_getElem
  · simp
  · intro j h1 h2
    simp only [List.getElem_mapIdx, List.getElem_map]
    rw [List.length_mapIdx] at h1
    rw [Nat.div_eq_of_lt (by omega)]
    rfl
theorem runV_rot {F T N : Int} {c k : Nat} (hc : 1 ≤ c) (n : Nat) : ∀ (A : Int) (l : List Int), RampOk F T N A → l.length = n * c → runV F T N A c (rotF c k n l) = rotF c k n (runV F T N A c l) := by
  induction n with
  | zero => intro A l hr hl; rfl
  | succ n ih =>
    intro A l hr hl
    have h2 : (n + 1) * c = n * c + c := Nat.succ_mul n c
    have htl : (l.take c).length = c := by rw [List.length_take]; omega
    have e := runV_append (b := l.drop c) hr hc 1 (show (l.take c).length = 1 * c by omega)
    rw [List.take_append_drop] at e
    rw [e, rotF, runV_append hr hc 1 (by rw [rot_length]; omega), ih _ _ (later_ok hr (by omega)) (by rw [List.length_drop]; omega), rotF_append (by rw [runV_length]; exact htl), runV_frame (by rw [rot_length]; exact htl), runV_frame htl, rot_map]

/-! ### turned sums -/
theorem addL_append {a : List Int} : ∀ {b c d : List Int}, a.length = c.length → addL (a ++ b) (c ++ d) = addL a c ++ addL b d := by
  induction a with
  | nil =>
    intro b c d h
    have : c = [] := List.length_eq_zero_iff.1 h.symm
    subst this
    rfl
  | cons x a ih =>
    intro b c d h
    cases c with
    | nil => simp at h
    | cons y c => simp only [List.cons_append, addL]; rw [ih (by simpa using h)]
theorem addL_take (k : Nat) : ∀ a b : List Int, a.length = b.length → (addL a b).take k = addL (a.take k) (b.take k) := by
  induction k with
  | zero => intro a b h; rfl
  | succ k ih =>
    intro a b h
    cases a with
    | nil => have : b = [] := List.length_eq_zero_iff.1 h.symm; subst this; rfl
    | cons x a =>
      cases b with
      | nil => simp at h
      | cons y b => simp only [List.take_succ_cons, addL]; rw [ih a b (by simpa using h)]
theorem addL_drop (k : Nat) : ∀ a b : List Int, a.length = b.length → (addL a b).drop k = addL (a.drop k) (b.drop k) := by
  induction k with
  | zero => intro a b h; rfl
  | succ k ih =>
    intro a b h
    cases a with
    | nil => have : b = [] := List.length_eq_zero_iff.1 h.symm; subst this; rfl
    | cons x a =>
      cases b with
      | nil => simp at h
      | cons y b => simp only [List.drop_succ_cons, addL]; rw [ih a b (by simpa using h)]
theorem addL_rot {k : Nat} {a b : List Int} (h : a.length = b.length) : addL (rot k a) (rot k b) = rot k (addL a b) := by
  unfold rot
  rw [addL_append (by rw [List.length_drop, List.length_drop, h]), addL_take k a b h, addL_drop k a b h]
theorem addL_rotF {c k : Nat} (n : Nat) : ∀ (m : Nat) (s d : List Int), m ≤ n → s.length = n * c → d.length = m * c → addL (rotF c k n s) (rotF c k m d) = rotF c k n (addL s d) := by
  induction n with
  | zero =>
    intro m s d hm hs hd
    have : m = 0 := by omega
    subst this
    rfl
  | succ n ih =>
    intro m s d hm hs hd
    cases m with
    | zero =>
      have : d = [] := List.length_eq_zero_iff.1 (by omega)
      subst this
      rw [addL_nil]
      exact addL_nil _
    | succ m =>
      have h2 : (n + 1) * c = n * c + c := Nat.succ_mul n c
      have h3 : (m + 1) * c = m * c + c := Nat.succ_mul m c
      have t1 : (s.take c).length = c := by rw [List.length_take]; omega
      have t2 : (d.take c).length = c := by rw [List.length_take]; omega
      have e := addL_append (a := s.take c) (b := s.drop c) (c := d.take c) (d := d.drop c) (by omega)
      rw [List.take_append_drop, List.take_append_drop] at e
      rw [e, rotF, rotF, addL_append (by rw [rot_length, rot_length]; omega), rotF_append (by rw [addL_length]; exact t1), addL_rot (by omega), ih m _ _ (by omega) (by rw [List.length_drop]; omega) (by rw [List.length_drop]; omega)]

/-! ### turned inputs -/
def turn1 (k : Nat) (x : S54) : S54 := ⟨⟨x.f0.f0, x.f0.f1⟩, ⟨x.f1.f0, x.f1.f1, x.f1.f2.drop (k * x.f1.f0.toNat) ++ x.f1.f2.take (k * x.f1.f0.toNat)⟩, ⟨x.f2.f0, x.f2.f1, x.f2.f2, x.f2.f3⟩⟩
section
variable {ch fr k : Nat} {x : S54}
theorem parts (h : Fine ch fr x) : ∃ i : Nat, x.f1.f0 = (i : Int) ∧ x.f1.f1 = (ch : Int) ∧ 1 ≤ i ∧ i ≤ 8 ∧ 1 ≤ ch ∧ ch ≤ 8 ∧ x.f1.f2.length = i * ch ∧ x.f0.f1.length = nF x * i ∧ nF x ≤ fr ∧ InOk x ∧ x.f1.f0 = x.f0.f0 := by
  obtain ⟨⟨hb, hm, hr⟩, h2, h3, h4⟩ := errOf_zero h.1
  obtain ⟨m1, m2, m3, m4, m5, m6⟩ := id hm
  obtain ⟨i, hi⟩ := Int.eq_ofNat_of_zero_le (show 0 ≤ x.f1.f0 by omega)
  have hn := (nF_cast hb).2
  rw [← h2, hi, Int.toNat_natCast] at hn
  refine ⟨i, hi, h3, by omega, by omega, by omega, by omega, ?_, hn, by omega, ⟨hb, hm, hr⟩, h2⟩
  rw [hi, h3, ← Int.natCast_mul] at m5
  omega
theorem turn_good (h : Fine ch fr x) : Fine ch fr (turn1 k x) := by
  obtain ⟨i, hi, ho, i1, i8, c1, c8, hcl, hdl, hn, ⟨hb, hm, hr⟩, hio⟩ := parts h
  have hlen : (x.f1.f2.drop (k * x.f1.f0.toNat) ++ x.f1.f2.take (k * x.f1.f0.toNat)).length = x.f1.f2.length := by
    rw [List.length_append, List.length_drop, List.length_take]
    omega
  obtain ⟨m1, m2, m3, m4, m5, m6⟩ := id hm
  have hm2 : MatOk x.f1.f0 x.f1.f1 (x.f1.f2.drop (k * x.f1.f0.toNat) ++ x.f1.f2.take (k * x.f1.f0.toNat)) := by
    refine ⟨m1, m2, m3, m4, by rw [hlen]; exact m5, allC_iff.2 fun y hy => allC_iff.1 m6 y ?_⟩
    rcases List.mem_append.1 hy with hy | hy
    · exact List.mem_of_mem_drop hy
    · exact List.mem_of_mem_take hy
  have h1 := h.1
  refine ⟨?_, h.2.1, by show (_ ++ _ : List Int).length ≤ 1000; rw [hlen]; exact h.2.2⟩
  have hok : InOk (turn1 k x) := ⟨hb, hm2, hr⟩
  unfold errOf
  rw [if_pos hok, if_pos (show (turn1 k x).f1.f0 = (turn1 k x).f0.f0 ∧ (turn1 k x).f1.f1 = (ch : Int) from ⟨hio, ho⟩), if_neg (show ¬ (nF (turn1 k x) : Int) > (fr : Int) from by show ¬ (nF x : Int) > (fr : Int); omega)]
theorem turn_contrib (h : Fine ch fr x) (hk : k ≤ ch) : contrib (turn1 k x) = rotF ch k (nF x) (contrib x) := by
  obtain ⟨i, hi, ho, i1, i8, c1, c8, hcl, hdl, hn, ⟨hb, hm, hr⟩, hio⟩ := parts h
  unfold contrib
  show runV x.f2.f0 x.f2.f1 x.f2.f2 x.f2.f3 x.f1.f1.toNat (appl (rowsV x.f1.f0.toNat x.f1.f1.toNat (x.f1.f2.drop (k * x.f1.f0.toNat) ++ x.f1.f2.take (k * x.f1.f0.toNat))) x.f1.f0.toNat (nF x) x.f0.f1) = _
  rw [hi, ho, Int.toNat_natCast, Int.toNat_natCast, rowsV_rot hcl hk, appl_rot, rowsV_length, runV_rot c1 (nF x) _ _ hr (by rw [appl_length, rowsV_length])]
theorem contrib_len (h : Fine ch fr x) : (contrib x).length = nF x * ch ∧ nF x ≤ fr := by
  obtain ⟨i, hi, ho, i1, i8, c1, c8, hcl, hdl, hn, _⟩ := parts h
  rw [contrib_length, ho, Int.toNat_natCast]
  exact ⟨rfl, hn⟩
end
theorem total_turn {ch fr k : Nat} (hk : k ≤ ch) (l : List S54) : ∀ s : List Int, (∀ x ∈ l, Fine ch fr x) → s.length = fr * ch → total (l.map (turn1 k)) (rotF ch k fr s) = rotF ch k fr (total l s) := by
  induction l with
  | nil => intro s _ _; rfl
  | cons x l ih =>
    intro s h hs
    have hx := h x (List.mem_cons_self ..)
    have hc := contrib_len hx
    show total (l.map (turn1 k)) (addL (rotF ch k fr s) (contrib (turn1 k x))) = rotF ch k fr (total l (addL s (contrib x)))
    rw [turn_contrib hx hk, addL_rotF fr (nF x) s (contrib x) hc.2 hs hc.1, ih _ (fun y hy => h y (List.mem_cons_of_mem _ hy)) (by rw [addL_length]; exact hs)]
theorem rotF_zeros {c k : Nat} (n : Nat) : rotF c k n (List.replicate (n * c) 0) = List.replicate (n * c) 0 := by
  apply List.ext_getElem
  · rw [rotF_length c k n _ (by rw [List.length_replicate]), List.length_replicate]
  · intro j h1 h2
    have hmem : ∀ (n : Nat) (l : List Int), (∀ x ∈ l, x = 0) → ∀ x ∈ rotF c k n l, x = 0 := by
      intro n
      induction n with
      | zero => intro l _ x hx; cases hx
      | succ n ih =>
        intro l hl x hx
        rcases List.mem_append.1 hx with hx | hx
        · exact hl x (List.mem_of_mem_take (rot_mem.1 hx))
        · exact ih _ (fun y hy => hl y (List.mem_of_mem_drop hy)) x hx
    rw [List.getElem_replicate]
    exact hmem n _ (fun x hx => (List.mem_replicate.1 hx).2) _ (List.getElem_mem h1)

/-! ### the limiter -/
theorem peak_rot (k : Nat) (f : List Int) : LimL.peak 0 (rot k f) = LimL.peak 0 f := by
  have h1 : LimL.peak 0 (rot k f) ≤ LimL.peak 0 f := LimL.peak_le _ 0 _ (LimL.peak_ge f 0) fun x hx => LimL.peak_mem f 0 x (rot_mem.1 hx)
  have h2 : LimL.peak 0 f ≤ LimL.peak 0 (rot k f) := LimL.peak_le _ 0 _ (LimL.peak_ge _ 0) fun x hx => LimL.peak_mem _ 0 x (rot_mem.2 hx)
  omega
theorem outs_rot {T R : Int} {c k : Nat} (n : Nat) : ∀ (G : Int) (s : List Int), s.length = n * c → LimL.outs c T R n G (rotF c k n s) = (rotF c k n (LimL.outs c T R n G s).1, (LimL.outs c T R n G s).2) := by
  induction n with
  | zero => intro G s hs; rfl
  | succ n ih =>
    intro G s hs
    have h2 : (n + 1) * c = n * c + c := Nat.succ_mul n c
    have t1 : (s.take c).length = c := by rw [List.length_take]; omega
    have r1 : (rot k (s.take c)).length = c := by rw [rot_length]; exact t1
    have hg : LimL.frameG T R G (rot k (s.take c)) = LimL.frameG T R G (s.take c) := by
      unfold LimL.frameG
      rw [peak_rot]
    have h := ih (LimL.frameG T R G (s.take c)) (s.drop c) (by rw [List.length_drop]; omega)
    simp only [LimL.outs]
    rw [rotF, List.take_left' r1, List.drop_left' r1, hg, h, rotF_append (by rw [List.length_map]; exact t1), rot_map]

/-! ### the loops -/
theorem turn_loop {ch fr k : Nat} (hk : k < ch) (hch : ch ≤ 8) (l : List S54) (hl : l.length ≤ 100) (hg : ∀ x ∈ l, Fine ch fr x) (T R G : Int) (x6 x7 : Int)
    (hnext : Ev (fun k_ => soundservicelaw23_MixtureTurns.l0 k_ x6 x7 l (k : Int) (l.map (turn1 k)) l (l.length : Int) (l.length : Int) T R G) true) (d : Nat) : ∀ i : Nat, i ≤ l.length → l.length - i = d →
    Ev (fun k_ => soundservicelaw23_MixtureTurns.l0 k_ x6 x7 l (k : Int) ((l.take i).map (turn1 k)) l (l.length : Int) (i : Int) T R G) true := by
  induction d with
  | zero =>
    intro i hi hd
    have : i = l.length := by omega
    subst this
    rw [List.take_length]
    exact hnext
  | succ d ih =>
    intro i hi hd
    have hlt : i < l.length := by omega
    have hx := hg l[i] (List.getElem_mem hlt)
    obtain ⟨q, hq, ho, q1, q8, c1, c8, hcl, hdl, hn, _⟩ := parts hx
    have h1 : k * q ≤ ch * q := Nat.mul_le_mul_right q (by omega)
    have h2 : ch * q = q * ch := Nat.mul_comm ch q
    have h3 : q * ch ≤ 8 * 8 := Nat.mul_le_mul q8 hch
    have e : (l.take (i + 1)).map (turn1 k) = (l.take i).map (turn1 k) ++ [turn1 k l[i]] := by
      rw [List.take_succ_eq_append_getElem hlt, List.map_append]
      rfl
    refine Ev.step (fun k_ => ?_) (ih (i + 1) (by omega) (by omega))
    rw [soundservicelaw23_MixtureTurns.l0, if_pos (by omega), if_pos (by omega), if_pos (by omega), rd54 hlt, hq, ← Int.natCast_mul, w64 (by omega) (by omega), if_pos (by omega), if_pos (by omega), Option.bind_some, if_pos (by rw [List.length_nil, List.length_drop]; omega), Option.bind_some, Option.bind_some, if_pos (by rw [List.length_append, List.length_nil, List.length_drop, List.length_take]; omega), if_pos (by rw [List.length_map, List.length_take]; omega), w64 (s := (i : Int) + 1) (by omega) (by omega), show (i : Int) + 1 = ((i + 1 : Nat) : Int) from by omega, e, Int.toNat_natCast, List.nil_append]
    unfold turn1
    rw [hq, Int.toNat_natCast]
theorem last_loop {c k n : Nat} (c1 : 1 ≤ c) (c8 : c ≤ 8) (hk : k < c) (hn : n ≤ 1000) (a : List Int) (ha : a.length = n * c) (ch1 ch2 : Int) (d : Nat) : ∀ i : Nat, i ≤ n * c → n * c - i = d →
    Ev (fun k_ => soundservicelaw23_MixtureTurns.l1 k_ (c : Int) (k : Int) (rotF c k n a) ((rotF c k n a).length : Int) (i : Int) ch1 a) true := by
  have hnc : n * c ≤ 1000 * 8 := Nat.mul_le_mul hn c8
  have hrl := rotF_length c k n a ha
  induction d with
  | zero =>
    intro i hi hd
    refine Ev.step (f := fun _ => some true) (fun k_ => ?_) (Ev.now _)
    rw [soundservicelaw23_MixtureTurns.l1, if_neg (by omega)]
  | succ d ih =>
    intro i hi hd
    obtain ⟨h1, h2, h3⟩ := rotF_get hk n a i ha (by omega)
    have hdm : i / c * c ≤ i := Nat.div_mul_le_self i c
    have hmod : i % c < c := Nat.mod_lt _ (by omega)
    have hmod2 : (i % c + k) % c < c := Nat.mod_lt _ (by omega)
    have e1 : wrap64 (Int.tdiv (i : Int) (c : Int)) = ((i / c : Nat) : Int) := by
      have := Nat.div_le_self i c
      have h0 : Int.tdiv (i : Int) (c : Int) = ((i / c : Nat) : Int) := by rw [Int.tdiv_eq_ediv_of_nonneg (by omega), ← Int.natCast_ediv]
      rw [h0, w64 (by have := Int.natCast_nonneg (i / c); omega) (by omega)]
    have e2 : Int.tmod (i : Int) (c : Int) = ((i % c : Nat) : Int) := by rw [Int.tmod_eq_emod_of_nonneg (by omega), ← Int.natCast_emod]
    have e3 : Int.tmod (((i % c + k : Nat)) : Int) (c : Int) = (((i % c + k) % c : Nat) : Int) := by rw [Int.tmod_eq_emod_of_nonneg (by omega), ← Int.natCast_emod]
    have e4 : wrap64 (wrap64 (wrap64 (Int.tdiv (i : Int) (c : Int)) * (c : Int)) + Int.tmod (wrap64 (Int.tmod (i : Int) (c : Int) + (k : Int))) (c : Int)) = ((i / c * c + (i % c + k) % c : Nat) : Int) := by
      rw [e1, ← Int.natCast_mul, w64 (s := ((i / c * c : Nat) : Int)) (by omega) (by omega), e2, ← Int.natCast_add, w64 (s := ((i % c + k : Nat) : Int)) (by omega) (by omega), e3, ← Int.natCast_add, w64 (by omega) (by omega)]
    generalize hp : i / c * c + (i % c + k) % c = p at e4 h2 h3
    clear hp e1 e2 e3 hmod hmod2 hdm
    have g1 := GainL.rd_at h1
    have g2 := GainL.rd_at h2
    refine Ev.step (fun k_ => ?_) (ih (i + 1) (by omega) (by omega))
    rw [soundservicelaw23_MixtureTurns.l1, if_pos (by omega), if_pos (by omega), if_pos (by omega), if_neg (by omega), e4, if_pos (by omega), if_pos (by omega), g1, g2, if_pos h3, w64 (s := (i : Int) + 1) (by omega) (by omega), show (i : Int) + 1 = ((i + 1 : Nat) : Int) from by omega]

/-- The whole from the made inputs on. -/
theorem core {c fr k : Nat} (c1 : 1 ≤ c) (c8 : c ≤ 8) (hfr : fr ≤ 7) (hk : k < c) (xs : List S54) (hxl : xs.length ≤ 4) (hg : ∀ x ∈ xs, Fine c fr x) {T R : Int} (hok : LimL.LimOk T R 65536) :
    Ev (fun k_ => soundservicelaw23_MixtureTurns.l0 k_ (c : Int) (fr : Int) xs (k : Int) [] xs (xs.length : Int) 0 T R 65536) true := by
  have hgt : ∀ x ∈ xs.map (turn1 k), Fine c fr x := by
    intro x hx
    obtain ⟨y, hy, rfl⟩ := List.mem_map.1 hx
    exact turn_good (hg y hy)
  have m1 := mixV_good (ch := c) (fr := fr) (l := xs) (T := T) (R := R) (G := 65536) c1 c8 (by omega) (by omega) hg hok
  have m2 := mixV_good (ch := c) (fr := fr) (l := xs.map (turn1 k)) (T := T) (R := R) (G := 65536) c1 c8 (by omega) (by rw [List.length_map]; omega) hgt hok
  have hzl : (List.replicate (c * fr) (0 : Int)) = List.replicate (fr * c) 0 := by rw [Nat.mul_comm]
  have ht3 := total_turn (ch := c) (fr := fr) (k := k) (by omega) xs (List.replicate (fr * c) 0) hg (by rw [List.length_replicate])
  rw [rotF_zeros] at ht3
  have htl : (total xs (List.replicate (fr * c) 0)).length = fr * c := by rw [total_length, List.length_replicate]
  rw [hzl, ht3, outs_rot fr 65536 _ htl] at m2
  rw [hzl] at m1
  generalize (total xs (List.replicate (fr * c) 0)) = s at m1 m2 htl
  have hol := LimL.outs_length (T := T) (R := R) c fr 65536 s htl
  have v1 := mix_ev (c : Int) (fr : Int) xs T R 65536 (lens_of hg)
  have v2 := mix_ev (c : Int) (fr : Int) (xs.map (turn1 k)) T R 65536 (lens_of hgt)
  rw [m1] at v1
  rw [m2] at v2
  have hfc : fr * c ≤ 7 * 8 := Nat.mul_le_mul hfr c8
  have hcf : wrap64 ((c : Int) * (fr : Int)) = ((fr * c : Nat) : Int) := by rw [← Int.natCast_mul, Nat.mul_comm, w64 (by omega) (by omega)]
  have hrl := rotF_length c k fr _ hol
  generalize (LimL.outs c T R fr 65536 s).2 = g2 at v1 v2
  generalize (LimL.outs c T R fr 65536 s).1 = b at v1 v2 hol hrl
  have hlast := last_loop (c := c) (k := k) (n := fr) c1 c8 hk (by omega) b hol (c : Int) 0 (fr * c) 0 (by omega) (by omega)
  have hend : Ev (fun k_ => soundservicelaw23_MixtureTurns.l0 k_ (c : Int) (fr : Int) xs (k : Int) (xs.map (turn1 k)) xs (xs.length : Int) (xs.length : Int) T R 65536) true := by
    refine ev_call (fun k_ => mixture_Mix.f k_ (c : Int) (fr : Int) xs T R 65536) ?hx (fun k_ => ?_) v1 ?_
    rotate_left
    · rw [soundservicelaw23_MixtureTurns.l0, if_neg (by omega)]
    · refine ev_head (fun k_ => mixture_Mix.f k_ (c : Int) (fr : Int) (xs.map (turn1 k)) T R 65536) (fun k t => _) (fun k_ => rfl) v2 ?_
      refine Ev.congr (f := fun k_ => soundservicelaw23_MixtureTurns.j1 k_ (c : Int) (k : Int) false (c : Int) b (c : Int) (rotF c k fr b)) (fun k_ => ?_) ?_
      · dsimp only
        rw [if_pos rfl, if_pos rfl, if_neg (by simp), hcf, if_pos (by omega), bne_eq_false_iff_eq.mpr (by omega)]
      · refine Ev.step (fun k_ => ?_) hlast
        rw [soundservicelaw23_MixtureTurns.j1, if_neg (by simp)]
        rfl
  exact turn_loop (ch := c) (fr := fr) (k := k) hk c8 xs (by omega) hg T R 65536 (c : Int) (fr : Int) hend xs.length 0 (by omega) (by omega)

end MixtureTurnsPure

open MixtureTurnsPure

/-- For all bytes and turns. -/
theorem MixtureTurns : soundservicelaw23_MixtureTurns.Pure := by
  intro l turn _ _ hw ht
  refine Ev.rounds (g := fun k => soundservicelaw23_MixtureTurns.f k l turn) ?_
  have ht2 : 0 ≤ turn ∧ turn ≤ 255 := by
    have h := ht
    simp [Lit.wf] at h
    exact h
  obtain ⟨l1, e1, h1, _⟩ := new_spec (dz_of hw)
  obtain ⟨a, l2, e2, h2, a0, a1⟩ := next_spec h1 3
  obtain ⟨f, l3, e3, h3, f0, f1⟩ := next_spec h2 8
  obtain ⟨an, rfl⟩ := Int.eq_ofNat_of_zero_le a0
  obtain ⟨fr, rfl⟩ := Int.eq_ofNat_of_zero_le f0
  obtain ⟨tn, rfl⟩ := Int.eq_ofNat_of_zero_le ht2.1
  obtain ⟨xs, l4, e4, h4, hxl, hg⟩ := inputs_spec h3 (ch := 1 + an) (fr := fr) (by omega) (by omega) (by omega)
  obtain ⟨T, R, l5, e5, h5, hok⟩ := limit_spec h4
  have hk : tn % (1 + an) < 1 + an := Nat.mod_lt _ (by omega)
  have hmod : Int.tmod (wrap64 (tn : Int)) ((1 + an : Nat) : Int) = ((tn % (1 + an) : Nat) : Int) := by
    rw [w64 (s := (tn : Int)) (by omega) (by omega), Int.tmod_eq_emod_of_nonneg (by omega), ← Int.natCast_emod]
  have hw1 : wrap64 (1 + (an : Int)) = ((1 + an : Nat) : Int) := by rw [w64 (s := 1 + (an : Int)) (by omega) (by omega)]; omega
  have c1 : 1 ≤ 1 + an := by omega
  have c8 : 1 + an ≤ 8 := by omega
  have hf3 : fr ≤ 7 := by omega
  generalize 1 + an = c at *
  generalize tn % c = k at *
  have hcore := core c1 c8 hf3 hk xs hxl hg hok
  refine ev_head (fun k => soundservicelaw23_sane.f k) (fun k t => _) (fun k => rfl) sane_ev ?_
  refine ev_head (fun k => soundservicelaw23_made.f k l3 (c : Int) (fr : Int)) ?gx (fun k => ?_) e4 ?_
  rotate_left
  · rw [if_pos rfl, e1, Option.bind_some, e2, Option.bind_some]
    dsimp only
    rw [e3, Option.bind_some]
    dsimp only
    rw [hw1]
  · refine Ev.congr (fun k => ?_) hcore
    dsimp only
    rw [e5, Option.bind_some]
    dsimp only
    rw [if_neg (by omega), hmod]

end Go.Proofs.Ytcnmemcclhahnaa.Pure
