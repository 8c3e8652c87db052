/- Plain laws of the reference's limiter: it is the program's. -/
import Derived.Test.YtempbcblakkjmaaPureLimit
import Derived.Test.YtempbcblakkjmaaQR4
import Derived.Test.YtempbcblakkjmaaQR4
import Derived.Test.YtempbcblakkjmaaQR6
import Derived.Test.YtempbcblakkjmaaQR6
import Derived.Test.YtempbcblakkjmaaQR7
set_option linter.unusedVariables false
set_option linter.unusedSimpArgs false
namespace Go.Proofs.Ytempbcblakkjmaa.LimL
open Go.RowKit Go.Proofs.Ytempbcblakkjmaa.QR Go.Proofs.YtempbcblakkjmaaW.PrintWords Go.Proofs.YtempbcblakkjmaaW.PrintLast

theorem refvalid_val (T R G : Int) : soundserviceref08_Valid.f T R G = some (decide (LimOk T R G)) := by
  rw [← valid_val]
  rfl
theorem refnew_eq (T R : Int) : soundserviceref08_New.f T R = limiter_New.f T R := by
  unfold soundserviceref08_New.f limiter_New.f
  rw [refvalid_val, valid_val]
theorem refneed_j0 (k : Nat) (t p : Int) (b : Bool) : soundserviceref08_Needed.j0 k t p b = limiter_Needed.j0 k t p b := by
  cases k with
  | zero => rw [soundserviceref08_Needed.j0, limiter_Needed.j0]
  | succ k => rw [soundserviceref08_Needed.j0, limiter_Needed.j0]
theorem refneed_eq (k : Nat) (t p : Int) : soundserviceref08_Needed.f k t p = limiter_Needed.f k t p := by
  unfold soundserviceref08_Needed.f limiter_Needed.f
  simp only [refneed_j0]
/-- A needed gain there always is. -/
theorem need_any (t p : Int) : ∃ v, Ev (fun k => limiter_Needed.f k t p) v := by
  have bad : Ev (fun k => limiter_Needed.j0 k t p true) 0 := by
    refine Ev.step (f := fun _ => some 0) (fun k => ?_) (Ev.now _)
    rw [limiter_Needed.j0, if_pos rfl]
  by_cases h1 : t < 1
  · exact ⟨0, Ev.congr (fun k => by unfold limiter_Needed.f; rw [if_pos h1]) bad⟩
  · by_cases h2 : t > 8388607
    · exact ⟨0, Ev.congr (fun k => by unfold limiter_Needed.f; rw [if_neg h1, if_pos h2]) bad⟩
    · by_cases h3 : p < 0
      · exact ⟨0, Ev.congr (fun k => by unfold limiter_Needed.f; rw [if_neg h1, if_neg h2, if_pos h3]) bad⟩
      · by_cases h4 : p > 1099511627776
        · exact ⟨0, Ev.congr (fun k => by unfold limiter_Needed.f; rw [if_neg h1, if_neg h2, if_neg h3, decide_eq_true h4]) bad⟩
        · exact ⟨_, need_ev (by omega) (by omega) (by omega) (by omega)⟩

def mag (x : Int) : Int := if x < 0 then -x else x
theorem mag_val {x : Int} (h0 : -1099511627776 ≤ x) (h1 : x ≤ 1099511627776) : soundserviceref08_magnitude.f x = some (mag x) := by
  unfold soundserviceref08_magnitude.f mag
  by_cases h : x < 0
  · rw [if_pos h, if_pos h, w64 (by omega) (by omega)]
  · rw [if_neg h, if_neg h]
theorem lw32 {s : Int} (h0 : -2147483648 ≤ s) (h1 : s ≤ 2147483647) : wrap32 s = s := by
  unfold wrap32
  omega

section
variable {T R G : Int}
theorem third (c : Int) (s : List Int) (at_ C : Int) (t1 : 1 ≤ T) (t2 : T ≤ 8388607) (g0 : 0 ≤ G) (g1 : G ≤ 65536) (f : List Int) (hg : G ≤ need T (peak 0 f)) (hl : f.length ≤ 8796093022208) (hs : Small f) (r : Int × List Int × Int × Int × Int × Int) (d : Nat) : ∀ (i : Nat) (ys : List Int), i ≤ f.length → f.length - i = d → ys.length + (f.length - i) ≤ 17592186044416 →
    Ev (fun k => soundserviceref08_Run.l1 k c s (wrap64 (at_ + c)) T R G C (ys ++ (f.drop i).map (outV G))) r →
    Ev (fun k => soundserviceref08_Run.l3 k c s at_ f (f.length : Int) (i : Int) T R G C ys) r := by
  induction d with
  | zero =>
    intro i ys hi hd hy h
    rw [List.drop_eq_nil_of_le (by omega), List.map_nil, List.append_nil] at h
    refine Ev.step (fun k => ?_) h
    rw [soundserviceref08_Run.l3, if_neg (by omega)]
  | succ d ih =>
    intro i ys hi hd hy h
    have hlt : i < f.length := by omega
    have hx := hs f[i] (List.getElem_mem hlt)
    have hp := peak_mem f 0 f[i] (List.getElem_mem hlt)
    obtain ⟨e1, hb1, hb2, _, _⟩ := outV_plain (x := f[i]) t1 t2 g0 g1 hg (peak_ge f 0) hp.1 hp.2
    have hm := mul_range hx.1 hx.2 g0 g1
    have ht := tdiv_range hm.1 hm.2
    rw [List.drop_eq_getElem_cons hlt, List.map_cons, show ys ++ outV G f[i] :: (f.drop (i + 1)).map (outV G) = (ys ++ [outV G f[i]]) ++ (f.drop (i + 1)).map (outV G) from by simp] at h
    have h2 := ih (i + 1) (ys ++ [outV G f[i]]) (by omega) (by omega) (by rw [List.length_append]; simp only [List.length_cons, List.length_nil]; omega) h
    refine Ev.step (fun k => ?_) h2
    rw [soundserviceref08_Run.l3, if_pos (by omega), if_pos (by omega), if_pos (by omega), rd_at hlt, mag_val hx.1 hx.2, Option.bind_some, w64 (s := (i : Int) + 1) (by omega) (by omega), show (i : Int) + 1 = ((i + 1 : Nat) : Int) from by omega, e1]
    unfold mag
    by_cases hn : f[i] < 0
    · rw [if_pos hn, if_pos (by omega), if_pos hn, Int.neg_mul, w64 (s := -(f[i] * G)) (by omega) (by omega), Int.neg_tdiv, w64 (s := -(Int.tdiv (f[i] * G) 65536)) (by omega) (by omega), Int.neg_neg, w64 (s := Int.tdiv (f[i] * G) 65536) (by omega) (by omega), lw32 (by omega) (by omega)]
    · rw [if_neg hn, if_pos (by omega), if_neg hn, w64 (s := f[i] * G) (by omega) (by omega), w64 (s := Int.tdiv (f[i] * G) 65536) (by omega) (by omega), lw32 (by omega) (by omega)]
theorem peaks (s : List Int) (hsl : s.length ≤ 4398046511104) (a c : Nat) (C : Int) (hac : a + c ≤ s.length) (hok : LimOk T R G) (hs : Small ((s.drop a).take c)) (ys : List Int) (hy : ys.length ≤ 8796093022208) (r : Int × List Int × Int × Int × Int × Int)
    (hnext : Ev (fun k => soundserviceref08_Run.l1 k (c : Int) s ((a + c : Nat) : Int) T R (frameG T R G ((s.drop a).take c)) C (ys ++ ((s.drop a).take c).map (outV (frameG T R G ((s.drop a).take c))))) r) (d : Nat) :
    ∀ (i : Nat) (p : Int), i ≤ c → c - i = d → 0 ≤ p → p ≤ 1099511627776 → peak p (((s.drop a).take c).drop i) = peak 0 ((s.drop a).take c) →
    Ev (fun k => soundserviceref08_Run.l2 k (c : Int) s (a : Int) p ((s.drop a).take c) (((s.drop a).take c).length : Int) (i : Int) T R G C ys) r := by
  have hfl : ((s.drop a).take c).length = c := by
    rw [List.length_take, List.length_drop]
    omega
  have hcut : (s.take (a + c)).drop a = (s.drop a).take c := by
    rw [List.drop_take]
    congr 1
    omega
  induction d with
  | zero =>
    intro i p hi hd p0 p1 hp
    rw [List.drop_eq_nil_of_le (by omega)] at hp
    have hp : p = peak 0 ((s.drop a).take c) := hp
    have hg := frameG_range hok ((s.drop a).take c)
    have h3 := third (T := T) (R := R) (c : Int) s (a : Int) C hok.1 hok.2.1 hg.1 hg.2.1 ((s.drop a).take c) hg.2.2 (by omega) hs r ((s.drop a).take c).length 0 ys (by omega) (by omega) (by omega) (by
      rw [List.drop_zero, w64 (s := (a : Int) + (c : Int)) (by omega) (by omega), show (a : Int) + (c : Int) = ((a + c : Nat) : Int) from by omega]
      exact hnext)
    refine ev_call (fun k => soundserviceref08_Needed.f k T p) ?fx (fun k => ?_) (Ev.congr (fun k => refneed_eq k T p) (need_ev hok.1 hok.2.1 p0 p1)) ?_
    rotate_left
    · rw [soundserviceref08_Run.l2, if_neg (by omega)]
    · refine Ev.congr (fun k => ?_) h3
      have h5 := hok.2.2.2.2
      have h4 := hok.2.2
      rw [if_pos (by omega), w64 (s := (a : Int) + (c : Int)) (by omega) (by omega), if_pos (by omega), if_pos (by omega), show ((a : Int) + (c : Int)).toNat = a + c from by omega, Int.toNat_natCast, hcut, w64 (s := G + R) (by omega) (by omega), hp]
      rfl
  | succ d ih =>
    intro i p hi hd p0 p1 hp
    have hlt : i < ((s.drop a).take c).length := by omega
    have hx := hs ((s.drop a).take c)[i] (List.getElem_mem hlt)
    rw [List.drop_eq_getElem_cons hlt] at hp
    have hp2 : peak (mx (mx p ((s.drop a).take c)[i]) (-((s.drop a).take c)[i])) (((s.drop a).take c).drop (i + 1)) = peak 0 ((s.drop a).take c) := hp
    have hmm : mx (mx p ((s.drop a).take c)[i]) (-((s.drop a).take c)[i]) = mx p (mag ((s.drop a).take c)[i]) := by
      unfold mx mag
      (repeat' split) <;> omega
    have hm : 0 ≤ mx p (mag ((s.drop a).take c)[i]) ∧ mx p (mag ((s.drop a).take c)[i]) ≤ 1099511627776 := by
      unfold mx mag
      (repeat' split) <;> omega
    rw [hmm] at hp2
    refine Ev.step (fun k => ?_) (ih (i + 1) _ (by omega) (by omega) hm.1 hm.2 hp2)
    rw [soundserviceref08_Run.l2, if_pos (by omega), if_pos (by omega), if_pos (by omega), rd_at hlt, mag_val hx.1 hx.2, Option.bind_some, w64 (s := (i : Int) + 1) (by omega) (by omega), show (i : Int) + 1 = ((i + 1 : Nat) : Int) from by omega]
end
theorem refloop {T R : Int} (C : Int) (c : Nat) (c1 : 1 ≤ c) (c8 : c ≤ 8) (s : List Int) (hl : s.length ≤ 4398046511104) (hs : Small s) (n : Nat) : ∀ (i : Nat) (G : Int) (ys : List Int), LimOk T R G → s.length = i + n * c → ys.length = i →
    Ev (fun k => soundserviceref08_Run.l1 k (c : Int) s (i : Int) T R G C ys) (C, ys ++ (outs c T R n G (s.drop i)).1, T, R, (outs c T R n G (s.drop i)).2, 0) := by
  induction n with
  | zero =>
    intro i G ys hok hi hy
    refine Ev.step (f := fun _ => some (C, ys ++ (outs c T R 0 G (s.drop i)).1, T, R, (outs c T R 0 G (s.drop i)).2, 0)) (fun k => ?_) (Ev.now _)
    rw [soundserviceref08_Run.l1, if_neg (by omega)]
    simp [outs]
  | succ n ih =>
    intro i G ys hok hi hy
    have hmul : (n + 1) * c = n * c + c := Nat.succ_mul n c
    have hci : i + c ≤ s.length := by omega
    have ht : (s.take (i + c)).drop i = (s.drop i).take c := by
      rw [List.drop_take]
      congr 1
      omega
    have h := ih (i + c) (frameG T R G ((s.drop i).take c)) (ys ++ ((s.drop i).take c).map (outV (frameG T R G ((s.drop i).take c)))) (frameG_ok hok _) (by omega) (by rw [List.length_append, List.length_map, List.length_take, List.length_drop]; omega)
    rw [← List.drop_drop, List.append_assoc] at h
    have hp := peaks (T := T) (R := R) (G := G) s hl i c C hci hok (small_take (small_drop hs i) c) ys (by omega) _ h c 0 0 (by omega) (by omega) (by omega) (by omega) (by rw [List.drop_zero])
    refine Ev.step (fun k => ?_) hp
    rw [soundserviceref08_Run.l1, if_pos (by omega), if_pos (by omega), w64 (s := (i : Int) + (c : Int)) (by omega) (by omega), if_pos (by omega), if_pos (by omega), show ((i : Int) + (c : Int)).toNat = i + c from by omega, Int.toNat_natCast, ht]
    rfl
theorem refscan {T R G : Int} (c : Int) (s : List Int) (hl : s.length ≤ 4611686018427387904) (r : Int × List Int × Int × Int × Int × Int) (hr : Small s → Ev (fun k => soundserviceref08_Run.l1 k c s 0 T R G c []) r) (hb : ¬ Small s → r = (0, [], 0, 0, 0, 2)) (d : Nat) :
    ∀ i : Nat, i ≤ s.length → s.length - i = d → (∀ j : Nat, ∀ h : j < s.length, j < i → -1099511627776 ≤ s[j] ∧ s[j] ≤ 1099511627776) → Ev (fun k => soundserviceref08_Run.l0 k c s s (s.length : Int) (i : Int) T R G) r := by
  induction d with
  | zero =>
    intro i hi hd hj
    refine Ev.step (fun k => ?_) (hr fun x hx => ?_)
    · rw [soundserviceref08_Run.l0, if_neg (by omega)]
    · obtain ⟨j, h, rfl⟩ := List.getElem_of_mem hx
      exact hj j h (by omega)
  | succ d ih =>
    intro i hi hd hj
    have hlt : i < s.length := by omega
    by_cases h2 : s[i] > 1099511627776
    · rw [hb fun h => by have := (h s[i] (List.getElem_mem hlt)).2; omega]
      refine Ev.step (f := fun _ => some (0, [], 0, 0, 0, 2)) (fun k => ?_) (Ev.now _)
      rw [soundserviceref08_Run.l0, if_pos (by omega), if_pos (by omega), if_pos (by omega), rd_at hlt, if_pos h2]
    · by_cases h1 : s[i] < -1099511627776
      · rw [hb fun h => by have := (h s[i] (List.getElem_mem hlt)).1; omega]
        refine Ev.step (f := fun _ => some (0, [], 0, 0, 0, 2)) (fun k => ?_) (Ev.now _)
        rw [soundserviceref08_Run.l0, if_pos (by omega), if_pos (by omega), if_pos (by omega), rd_at hlt, if_neg h2, if_pos h1]
      · refine Ev.step (fun k => ?_) (ih (i + 1) (by omega) (by omega) fun j h hji => ?_)
        · rw [soundserviceref08_Run.l0, if_pos (by omega), if_pos (by omega), if_pos (by omega), rd_at hlt, if_neg h2, if_neg h1, w64 (s := (i : Int) + 1) (by omega) (by omega), show (i : Int) + 1 = ((i + 1 : Nat) : Int) from by omega]
        · by_cases e : j = i
          · subst e
            omega
          · exact hj j h (by omega)
theorem refrun_ev (T R G c : Int) (s : List Int) (hl : s.length ≤ 4611686018427387904) : Ev (fun k => soundserviceref08_Run.f k T R G c s) (runV T R G c s) := by
  by_cases hok : LimOk T R G
  · have bad : ¬ Fits c s → Ev (fun k => soundserviceref08_Run.j0 k c s true T R G) (runV T R G c s) := fun h => by
      refine Ev.step (f := fun _ => some (0, [], 0, 0, 0, 2)) (fun k => ?_) ?_
      · rw [soundserviceref08_Run.j0, if_pos rfl]
      · unfold runV
        rw [if_pos hok, if_neg (fun h2 => h h2.1)]
        exact Ev.now _
    have hd : ∀ k, soundserviceref08_Run.f k T R G c s = if c < 1 then (soundserviceref08_Run.j0 k c s true T R G) else (if c > 8 then (soundserviceref08_Run.j0 k c s true T R G) else (if c = 0 then (none) else (if ((s.length : Int) % c) = 0 then (soundserviceref08_Run.j0 k c s (decide ((wrap64 ((s.length : Int) / c)) > 65536)) T R G) else (soundserviceref08_Run.j0 k c s true T R G)))) := fun k => by
      unfold soundserviceref08_Run.f
      rw [refvalid_val, Option.bind_some, decide_eq_true hok, if_pos rfl]
    by_cases h1 : c < 1
    · refine Ev.congr (fun k => ?_) (bad fun h => by have := h.1; omega)
      rw [hd, if_pos h1]
    · by_cases h2 : c > 8
      · refine Ev.congr (fun k => ?_) (bad fun h => by have := h.2.1; omega)
        rw [hd, if_neg h1, if_pos h2]
      · by_cases h3 : (s.length : Int) % c = 0
        · have hq : (s.length : Int) / c ≤ s.length := Int.ediv_le_self _ (by omega)
          have hq0 : 0 ≤ (s.length : Int) / c := Int.ediv_nonneg (by omega) (by omega)
          by_cases h4 : (s.length : Int) / c > 65536
          · refine Ev.congr (fun k => ?_) (bad fun h => by have := h.2.2.2; omega)
            rw [hd, if_neg h1, if_neg h2, if_neg (by omega), if_pos h3, w64 (by omega) (by omega), decide_eq_true h4]
          · have hfit : Fits c s := ⟨by omega, by omega, h3, by omega⟩
            obtain ⟨m, rfl⟩ := Int.eq_ofNat_of_zero_le (show 0 ≤ c by omega)
            have hmod : s.length % m = 0 := by
              have : ((s.length % m : Nat) : Int) = 0 := by rw [Int.natCast_emod]; exact h3
              omega
            have hdiv : s.length / m ≤ 65536 := by
              have : ((s.length / m : Nat) : Int) ≤ 65536 := by rw [Int.natCast_ediv]; omega
              omega
            have hlen : s.length = 0 + s.length / m * m := by
              have := Nat.div_add_mod s.length m
              rw [Nat.mul_comm] at this
              omega
            have hsm : s.length ≤ 4398046511104 := by
              have h8 : s.length / m * m ≤ 65536 * 8 := Nat.mul_le_mul hdiv (by omega)
              omega
            refine Ev.congr (f := fun k => soundserviceref08_Run.j0 k (m : Int) s false T R G) (fun k => ?_) ?_
            · rw [hd, if_neg h1, if_neg h2, if_neg (by omega), if_pos h3, w64 (by omega) (by omega), decide_eq_false h4]
            · refine Ev.step (f := fun k => soundserviceref08_Run.l0 k (m : Int) s s (s.length : Int) 0 T R G) (fun k => ?_) ?_
              · rw [soundserviceref08_Run.j0, if_neg (by simp)]
              · refine refscan (m : Int) s hl (runV T R G (m : Int) s) (fun hsmall => ?_) (fun hn => ?_) s.length 0 (by omega) (by omega) (fun j _ h => by omega)
                · have h := refloop (T := T) (R := R) (m : Int) m (by omega) (by omega) s hsm hsmall (s.length / m) 0 G [] hok hlen rfl
                  rw [List.drop_zero, List.nil_append] at h
                  unfold runV
                  rw [if_pos hok, if_pos ⟨hfit, hsmall⟩, Int.toNat_natCast]
                  exact h
                · unfold runV
                  rw [if_pos hok, if_neg (fun h => hn h.2)]
        · refine Ev.congr (fun k => ?_) (bad fun h => h3 h.2.2.1)
          rw [hd, if_neg h1, if_neg h2, if_neg (by omega), if_neg h3]
  · refine Ev.congr (f := fun _ => some (0, [], 0, 0, 0, 1)) (fun k => ?_) ?_
    · unfold soundserviceref08_Run.f
      rw [refvalid_val, Option.bind_some, decide_eq_false hok, if_neg (by simp)]
    · unfold runV
      rw [if_neg hok]
      exact Ev.now _

end Go.Proofs.Ytempbcblakkjmaa.LimL
