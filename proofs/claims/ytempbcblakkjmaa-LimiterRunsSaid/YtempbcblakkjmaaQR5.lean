-- Written by a program of this session, out of the seat's translation; checked by the kernel alone.
import Derived.Test.YtempbcblakkjmaaQR0
import Derived.Test.YtempbcblakkjmaaQR4
namespace Go.Proofs.Ytempbcblakkjmaa.QR
open Go.RowKit Go.Proofs.YtempbcblakkjmaaW.PrintWords Go.Proofs.YtempbcblakkjmaaW.PrintLast Go.Proofs.YtempbcblakkjmaaW.PrintMore
attribute [local go_sem] max2_int min2_int max_two min_two max_three min_three max_four min_four   -- for this text's walks alone
set_option linter.unusedVariables false
set_option linter.unusedSimpArgs false

/-! ### soundservicelaw08_made: function 10 -/
def soundservicelaw08_made.f (s0_0 : List Int) : Option (Int × Int × Int × List Int) := (some (([8388607, 1, 100, 4000000] : List Int) : List Int)).bind fun y159 => ((soundservicemade_Dice_Next.f s0_0 4).bind fun bt162 => (if 0 ≤ bt162.1 then (if bt162.1 < (y159.length : Int) then ((some (([1, 1000, 65536] : List Int) : List Int)).bind fun y165 => ((soundservicemade_Dice_Next.f bt162.2 3).bind fun bt168 => (if 0 ≤ bt168.1 then (if bt168.1 < (y165.length : Int) then ((soundserviceref08_New.f (rd y159 bt162.1) (rd y165 bt168.1)).bind fun bt171 => ((some (([65536, 0, 1, 30000] : List Int) : List Int)).bind fun y176 => ((soundservicemade_Dice_Next.f bt168.2 4).bind fun bt179 => (if 0 ≤ bt179.1 then (if bt179.1 < (y176.length : Int) then (some (bt171.1, bt171.2.1, rd y176 bt179.1, bt179.2)) else (none)) else (none))))) else (none)) else (none)))) else (none)) else (none)))
def soundservicelaw08_made.T1 : Bool × List (List Nat × List Nat) := (true, [([], []), ([], []), ([1], [1]), ([0, 2], [0, 2]), ([3], [3]), ([], []), ([], []), ([6, 2], [6]), ([5, 7], [5, 7]), ([8], [8]), ([4, 9, 7], [4, 9]), ([10], [10]), ([11], [11]), ([11], [11]), ([], []), ([14, 12, 10, 0, 1, 2, 3, 4, 5, 6, 7, 8, 9, 10, 11, 12, 14], [12, 14]), ([13, 15, 0, 1, 2, 3, 4, 5, 6, 7, 8, 9, 10, 11, 12, 13, 14, 15], [13])])
def soundservicelaw08_made.B1 : List Nat := [0, 0, 2, 7, 15, 0, 0, 70, 230, 486, 1023, 2047, 4095, 4095, 0, 24575, 65535]
theorem soundservicelaw08_made.tab1 : rtab .any (opsOf Try.f10 1) = soundservicelaw08_made.T1 := by kernel_rfl
theorem soundservicelaw08_made.bits1 : waitsOk soundservicelaw08_made.T1.2 soundservicelaw08_made.B1 = true := by kernel_rfl
set_option maxHeartbeats 8000000 in
set_option maxRecDepth 100000 in
theorem soundservicelaw08_made.calls (g : Nat) (s0_0 : List Int) (r1 : Int) (r2 : Int) (r3 : Int) (r4 : List Int) (w0 w : World) (hI : IsS56 w0 w g s0_0) (hB : Below w0.heap.size w0 w) (h : soundservicelaw08_made.f s0_0 = some (r1, r2, r3, r4)) :
    Calls Try.prog 10 #[.pointer (some ⟨g, 0, none⟩)] w fun e w' => e = .returned (.agg #[.int .i64 r1, .int .i64 r2, .int .i64 r3]) ∧ IsS56 w0 w' g r4 ∧ Below w0.heap.size w0 w' ∧ KeepBut w w' g none := by
  have hu23 := Try.underlying23
  have HGT := Aside0.mk (IsS56.lt hI)
  have HI0 := Aside0.mk hI
  have HK := Aside0.mk (KeepBut.refl w g none)
  have HL := Aside0.mk hB.size
  clear hI
  have HW0 := Aside0.mk hB.size
  have HB := Aside0.mk hB
  clear hB
  have H : ((some (([8388607, 1, 100, 4000000] : List Int) : List Int)).bind fun y159 => ((soundservicemade_Dice_Next.f s0_0 4).bind fun bt162 => (if 0 ≤ bt162.1 then (if bt162.1 < (y159.length : Int) then ((some (([1, 1000, 65536] : List Int) : List Int)).bind fun y165 => ((soundservicemade_Dice_Next.f bt162.2 3).bind fun bt168 => (if 0 ≤ bt168.1 then (if bt168.1 < (y165.length : Int) then ((soundserviceref08_New.f (rd y159 bt162.1) (rd y165 bt168.1)).bind fun bt171 => ((some (([65536, 0, 1, 30000] : List Int) : List Int)).bind fun y176 => ((soundservicemade_Dice_Next.f bt168.2 4).bind fun bt179 => (if 0 ≤ bt179.1 then (if bt179.1 < (y176.length : Int) then (some (bt171.1, bt171.2.1, rd y176 bt179.1, bt179.2)) else (none)) else (none))))) else (none)) else (none)))) else (none)) else (none)))) = some (r1, r2, r3, r4) := h
  clear h
  obtain ⟨y159, hy159⟩ : ∃ y_ : List Int, y_ = (([8388607, 1, 100, 4000000] : List Int)) := ⟨_, rfl⟩
  replace H : ((soundservicemade_Dice_Next.f s0_0 4).bind fun bt162 => (if 0 ≤ bt162.1 then (if bt162.1 < (y159.length : Int) then ((some (([1, 1000, 65536] : List Int) : List Int)).bind fun y165 => ((soundservicemade_Dice_Next.f bt162.2 3).bind fun bt168 => (if 0 ≤ bt168.1 then (if bt168.1 < (y165.length : Int) then ((soundserviceref08_New.f (rd y159 bt162.1) (rd y165 bt168.1)).bind fun bt171 => ((some (([65536, 0, 1, 30000] : List Int) : List Int)).bind fun y176 => ((soundservicemade_Dice_Next.f bt168.2 4).bind fun bt179 => (if 0 ≤ bt179.1 then (if bt179.1 < (y176.length : Int) then (some (bt171.1, bt171.2.1, rd y176 bt179.1, bt179.2)) else (none)) else (none))))) else (none)) else (none)))) else (none)) else (none))) = some (r1, r2, r3, r4) := by first | (rw [hy159]; with_reducible exact H) | (have H2_ := (Option.bind_some _ _).symm.trans H; rw [hy159]; with_reducible exact H2_) | (have H2_ := (Option.bind_some _ _).symm.trans H; with_reducible exact H2_) | with_reducible exact H | (rw [hy159]; exact H) | exact H
  have Ny159 := Aside0.mk hy159
  clear hy159
  replace H := Option.bind_eq_some_iff.mp H
  obtain ⟨⟨t162, t163⟩, A20, H⟩ := H
  replace H : (if 0 ≤ t162 then (if t162 < (y159.length : Int) then ((some (([1, 1000, 65536] : List Int) : List Int)).bind fun y165 => ((soundservicemade_Dice_Next.f t163 3).bind fun bt168 => (if 0 ≤ bt168.1 then (if bt168.1 < (y165.length : Int) then ((soundserviceref08_New.f (rd y159 t162) (rd y165 bt168.1)).bind fun bt171 => ((some (([65536, 0, 1, 30000] : List Int) : List Int)).bind fun y176 => ((soundservicemade_Dice_Next.f bt168.2 4).bind fun bt179 => (if 0 ≤ bt179.1 then (if bt179.1 < (y176.length : Int) then (some (bt171.1, bt171.2.1, rd y176 bt179.1, bt179.2)) else (none)) else (none))))) else (none)) else (none)))) else (none)) else (none)) = some (r1, r2, r3, r4) := H
  have A2 := Aside0.mk A20
  clear A20
  by_cases c3 : 0 ≤ t162
  · rw [if_pos c3] at H
    have c3b0 : decide (0 ≤ t162) = true := decide_eq_true c3
    clear c3
    by_cases c4 : t162 < (y159.length : Int)
    · rw [if_pos c4] at H
      have c4b0 : decide (t162 < (y159.length : Int)) = true := decide_eq_true c4
      clear c4
      obtain ⟨y165, hy165⟩ : ∃ y_ : List Int, y_ = (([1, 1000, 65536] : List Int)) := ⟨_, rfl⟩
      replace H : ((soundservicemade_Dice_Next.f t163 3).bind fun bt168 => (if 0 ≤ bt168.1 then (if bt168.1 < (y165.length : Int) then ((soundserviceref08_New.f (rd y159 t162) (rd y165 bt168.1)).bind fun bt171 => ((some (([65536, 0, 1, 30000] : List Int) : List Int)).bind fun y176 => ((soundservicemade_Dice_Next.f bt168.2 4).bind fun bt179 => (if 0 ≤ bt179.1 then (if bt179.1 < (y176.length : Int) then (some (bt171.1, bt171.2.1, rd y176 bt179.1, bt179.2)) else (none)) else (none))))) else (none)) else (none))) = some (r1, r2, r3, r4) := by first | (rw [hy165]; with_reducible exact H) | (have H2_ := (Option.bind_some _ _).symm.trans H; rw [hy165]; with_reducible exact H2_) | (have H2_ := (Option.bind_some _ _).symm.trans H; with_reducible exact H2_) | with_reducible exact H | (rw [hy165]; exact H) | exact H
      have Ny165 := Aside0.mk hy165
      clear hy165
      replace H := Option.bind_eq_some_iff.mp H
      obtain ⟨⟨t168, t169⟩, A50, H⟩ := H
      replace H : (if 0 ≤ t168 then (if t168 < (y165.length : Int) then ((soundserviceref08_New.f (rd y159 t162) (rd y165 t168)).bind fun bt171 => ((some (([65536, 0, 1, 30000] : List Int) : List Int)).bind fun y176 => ((soundservicemade_Dice_Next.f t169 4).bind fun bt179 => (if 0 ≤ bt179.1 then (if bt179.1 < (y176.length : Int) then (some (bt171.1, bt171.2.1, rd y176 bt179.1, bt179.2)) else (none)) else (none))))) else (none)) else (none)) = some (r1, r2, r3, r4) := H
      have A5 := Aside0.mk A50
      clear A50
      by_cases c6 : 0 ≤ t168
      · rw [if_pos c6] at H
        have c6b0 : decide (0 ≤ t168) = true := decide_eq_true c6
        clear c6
        by_cases c7 : t168 < (y165.length : Int)
        · rw [if_pos c7] at H
          have c7b0 : decide (t168 < (y165.length : Int)) = true := decide_eq_true c7
          clear c7
          replace H := Option.bind_eq_some_iff.mp H
          obtain ⟨⟨t171, t172, t173, t174⟩, A80, H⟩ := H
          replace H : ((some (([65536, 0, 1, 30000] : List Int) : List Int)).bind fun y176 => ((soundservicemade_Dice_Next.f t169 4).bind fun bt179 => (if 0 ≤ bt179.1 then (if bt179.1 < (y176.length : Int) then (some (t171, t172, rd y176 bt179.1, bt179.2)) else (none)) else (none)))) = some (r1, r2, r3, r4) := H
          have A8 := Aside0.mk A80
          clear A80
          obtain ⟨y176, hy176⟩ : ∃ y_ : List Int, y_ = (([65536, 0, 1, 30000] : List Int)) := ⟨_, rfl⟩
          replace H : ((soundservicemade_Dice_Next.f t169 4).bind fun bt179 => (if 0 ≤ bt179.1 then (if bt179.1 < (y176.length : Int) then (some (t171, t172, rd y176 bt179.1, bt179.2)) else (none)) else (none))) = some (r1, r2, r3, r4) := by first | (rw [hy176]; with_reducible exact H) | (have H2_ := (Option.bind_some _ _).symm.trans H; rw [hy176]; with_reducible exact H2_) | (have H2_ := (Option.bind_some _ _).symm.trans H; with_reducible exact H2_) | with_reducible exact H | (rw [hy176]; exact H) | exact H
          have Ny176 := Aside0.mk hy176
          clear hy176
          replace H := Option.bind_eq_some_iff.mp H
          obtain ⟨⟨t179, t180⟩, A90, H⟩ := H
          replace H : (if 0 ≤ t179 then (if t179 < (y176.length : Int) then (some (t171, t172, rd y176 t179, t180)) else (none)) else (none)) = some (r1, r2, r3, r4) := H
          have A9 := Aside0.mk A90
          clear A90
          by_cases c10 : 0 ≤ t179
          · rw [if_pos c10] at H
            have c10b0 : decide (0 ≤ t179) = true := decide_eq_true c10
            clear c10
            by_cases c11 : t179 < (y176.length : Int)
            · rw [if_pos c11] at H
              have c11b0 : decide (t179 < (y176.length : Int)) = true := decide_eq_true c11
              clear c11
              simp only [Option.some.injEq, Prod.mk.injEq] at H
              obtain ⟨rfl, rfl, rfl, rfl⟩ := H
              go_enter Try.func10, Try.ntmps10
              try go_wp2_with (first | ((with_reducible refine gate_dst (N := 2) rfl ?_); refine box_event ?hg (N := 2) ?hd (cs := #[.int .i64 0, .int .i64 0, .int .i64 0]) (t := 23) ?hr ?_; (case hd => rfl); (case hg => rfl); (case hr => first | (go_simp; done) | (go_simp; rfl)); intro gb158 hg w12 hbox hb; have n0_ := Aside0.mk (IsS56.below (by repeat (first | (with_reducible first | exact HI0.out | apply IsS56.alloc | apply IsS56.drewN | apply IsS56.drew | apply IsS56.set_0) | exact HI0.out)) hb); have n1_ := Aside0.mk (KeepBut.trans (by repeat (first | (with_reducible first | exact HK.out | apply KeepBut.set_ | apply keep_drewN | apply keep_drew | apply keep_alloc) | exact HK.out)) (KeepBut.of_below hb g none) (.inl rfl)); have n2_ := Aside0.mk (below_step (by repeat (first | (with_reducible first | exact HB.out | apply below_alloc | apply pw_below_drewN | apply below_drew1 | refine below_set ?_ (IsS56.ge HI0.out)) | exact HB.out)) hb); have n3_ := Aside0.mk (hbox); have n4_ := Aside0.mk ((by rw [hg]; exact (keep_size (w := w) (g := g) (row := none) (by repeat (first | (with_reducible first | exact HK.out | apply KeepBut.set_ | apply keep_drewN | apply keep_drew | apply keep_alloc) | exact HK.out))) : w.heap.size ≤ gb158)); have n5_ := Aside0.mk ((Nat.le_trans HW0.out (by rw [hg]; exact (keep_size (w := w) (g := g) (row := none) (by repeat (first | (with_reducible first | exact HK.out | apply KeepBut.set_ | apply keep_drewN | apply keep_drew | apply keep_alloc) | exact HK.out))) : w.heap.size ≤ gb158) : w0.heap.size ≤ gb158)); have n6_ := Aside0.mk ((by rw [hg]; exact Nat.ne_of_lt (Nat.lt_of_lt_of_le HGT.out (show KeepBut w _ g none from by repeat (first | (with_reducible first | exact HK.out | apply KeepBut.set_ | apply keep_drewN | apply keep_drew | apply keep_alloc) | exact HK.out)).1) : g ≠ gb158)); have n7_ := Aside0.mk ((by rw [hg]; exact Nat.ne_of_gt (Nat.lt_of_lt_of_le HGT.out (show KeepBut w _ g none from by repeat (first | (with_reducible first | exact HK.out | apply KeepBut.set_ | apply keep_drewN | apply keep_drew | apply keep_alloc) | exact HK.out)).1) : gb158 ≠ g)); clear HI0; clear HK; clear HB; have HI0 := n0_; have HK := n1_; have HB := n2_; have BK158 := n3_; have GW158 := n4_; have GE158 := n5_; have NB0_158 := n6_; have NB158_0 := n7_; clear n0_ n1_ n2_ n3_ n4_ n5_ n6_ n7_; clear hb hbox hg))
              have pi164 : (0 ≤ (t162 : Int)) = True := eq_true (of_decide_eq_true (by first | (with_reducible assumption) | assumption))
              have qi164 : (t162 < (y159.length : Int)) = True := eq_true (of_decide_eq_true (by first | (with_reducible assumption) | assumption))
              have pi170 : (0 ≤ (t168 : Int)) = True := eq_true (of_decide_eq_true (by first | (with_reducible assumption) | assumption))
              have qi170 : (t168 < (y165.length : Int)) = True := eq_true (of_decide_eq_true (by first | (with_reducible assumption) | assumption))
              have n0_ := Aside0.mk (blk_drew BK158.out)
              have n1_ := Aside0.mk (IsS56.drew HI0.out)
              have n2_ := Aside0.mk (keep_drew HK.out)
              have n3_ := Aside0.mk (below_drew1 HB.out)
              clear BK158
              clear HI0
              clear HK
              clear HB
              have BK158 := n0_
              have HI0 := n1_
              have HK := n2_
              have HB := n3_
              clear n0_ n1_ n2_ n3_
              refine start_ (n := 17) (S := fun w' => True) (ds := []) #[false, false, false, false, false, false, false, false, false, false, false, false, false, false, false, false, false] (by kernel_rfl) rfl rfl trivial (fun hHeld => ?_); refine with_tabW soundservicelaw08_made.tab1 soundservicelaw08_made.bits1 (fun HT_ HW_ => ?_)
              generalize w12.drew = w13 at BK158 HI0 HK HB hHeld ⊢
              refine pure_ (i := 1) (N := some 7) (v := ?_) (a' := ?_) #[false, true, false, false, false, false, false, false, false, false, false, false, false, false, false, false, false] rfl rfl (any_of HT_.out (by kernel_rfl)) (fun _ _ _ h => h) (Or.inl ⟨by rfl, ?_⟩) ?_ ?_
              rotate_left
              · intro w'
                go_simp
                with_reducible rfl
              rotate_left
              · simp only [Act.put, List.setIfInBounds_toArray, List.set_cons_zero, List.set_cons_succ, i64_w, i32_w]
                rfl
              refine pure_ (i := 6) (N := some 12) (v := ?_) (a' := ?_) #[false, true, false, false, false, false, true, false, false, false, false, false, false, false, false, false, false] rfl rfl (any_of HT_.out (by kernel_rfl)) (fun _ _ _ h => h) (Or.inl ⟨by rfl, ?_⟩) ?_ ?_
              rotate_left
              · intro w'
                go_simp
                with_reducible rfl
              rotate_left
              · simp only [Act.put, List.setIfInBounds_toArray, List.set_cons_zero, List.set_cons_succ, i64_w, i32_w]
                rfl
              refine inv_at [0, 2, 3, 4, 5, 7, 8, 9, 10, 11, 12, 13, 14, 15, 16] (fun a0_ b a w' => ∃ (v160 : Value) (adz_v160 : Addr) (v166 : Value) (adz_v166 : Addr) (gb175 : Nat) (m3_ : Value) (m8_ : Value) (m14_ : Value), a = putSel a0_ b [(0, 6, v160), (2, 8, .int .i64 t162), (3, 9, m3_), (4, 10, .int .i64 (rd y159 t162)), (5, 11, v166), (7, 13, .int .i64 t168), (8, 14, m8_), (9, 15, .int .i64 (rd y165 t168)), (10, 16, .tuple #[.agg #[.int .i64 t171, .int .i64 t172, .int .i64 t173], .int .i64 t174]), (11, 5, .tuple #[.agg #[.int .i64 t171, .int .i64 t172, .int .i64 t173], .int .i64 t174]), (12, 17, .agg #[.int .i64 t171, .int .i64 t172, .int .i64 t173]), (13, 18, .int .i64 t174), (14, 3, m14_), (16, 4, .int .i64 t174)] ∧ (w'.heap[gb158]? = some (.cells #[.int .i64 0, .int .i64 0, .int .i64 0] 23 (0, 0))) ∧ (b 2 = false → IsS56 w0 w' g s0_0) ∧ (KeepBut w w' g none) ∧ (Below w0.heap.size w0 w') ∧ (b 0 = true → Kd.R (Kd.int .i64) 3 w' w.heap.size (fun _ => True) v160 y159) ∧ (b 0 = true → ∃ c_, (v160 : Value) = .slice (some adz_v160) y159.length c_) ∧ (b 2 = true → b 7 = false → IsS56 w0 w' g t163) ∧ (b 5 = true → Kd.R (Kd.int .i64) 3 w' w.heap.size (fun _ => True) v166 y165) ∧ (b 5 = true → ∃ c_, (v166 : Value) = .slice (some adz_v166) y165.length c_) ∧ (b 7 = true → IsS56 w0 w' g t169) ∧ (b 14 = true → b 15 = false → w'.heap[gb175]? = some (.cells #[.int .i64 0, .int .i64 0, .int .i64 0] 23 (0, 0))) ∧ (b 14 = true → w.heap.size ≤ gb175) ∧ (b 14 = true → w0.heap.size ≤ gb175) ∧ (b 14 = true → g ≠ gb175) ∧ (b 14 = true → gb175 ≠ g) ∧ (b 14 = true → gb158 ≠ gb175) ∧ (b 14 = true → gb175 ≠ gb158) ∧ (b 15 = true → w'.heap[gb175]? = some (.cells #[.int .i64 t171, .int .i64 t172, .int .i64 t173] 23 (0, 0))) ∧ (b 3 = true → (m3_ : Value) = .pointer (some (adz_v160.add (t162).toNat))) ∧ (b 8 = true → (m8_ : Value) = .pointer (some (adz_v166.add (t168).toNat))) ∧ (b 14 = true → (m14_ : Value) = .pointer (some ⟨gb175, 0, none⟩))) HT_.out HW_.out (by kernel_rfl) (by kernel_rfl) ?_ ?_ ?_
              · exact ⟨.bool false, ⟨0, 0, none⟩, .bool false, ⟨0, 0, none⟩, 0, .bool false, .bool false, .bool false, by simp only [putSel, Bool.false_eq_true, if_false], BK158.out, fun _ => HI0.out, HK.out, HB.out, fun h_ => absurd h_ (by decide), fun h_ => absurd h_ (by decide), fun h_ => absurd h_ (by decide), fun h_ => absurd h_ (by decide), fun h_ => absurd h_ (by decide), fun h_ => absurd h_ (by decide), fun h_ => absurd h_ (by decide), fun h_ => absurd h_ (by decide), fun h_ => absurd h_ (by decide), fun h_ => absurd h_ (by decide), fun h_ => absurd h_ (by decide), fun h_ => absurd h_ (by decide), fun h_ => absurd h_ (by decide), fun h_ => absurd h_ (by decide), fun h_ => absurd h_ (by decide), fun h_ => absurd h_ (by decide), fun h_ => absurd h_ (by decide)⟩
              · skip
                clear BK158 HB HI0 HK
                refine steps_cons ?_ ?_
                · rintro b a w' ⟨v160, adz_v160, v166, adz_v166, gb175, m3_, m8_, m14_, ha, Q_BK158, Q_HI0, Q_HK, Q_HB, Q_HO161, Q_HA_HO161, Q_HI0_e2, Q_HO167, Q_HA_HO167, Q_HI0_e7, Q_BK175, Q_GW175, Q_GE175, Q_NB0_175, Q_NB175_0, Q_NB158_175, Q_NB175_158, Q_BK175_e15, Q_X3_, Q_X8_, Q_X14_⟩ hb_ hon hoff
                  refine ⟨_, rfl, fun K hK => ?_⟩
                  replace ha := Aside0.mk ha
                  have BK158 := Aside0.mk Q_BK158
                  have HK := Aside0.mk Q_HK
                  have HB := Aside0.mk Q_HB
                  refine Kd.R_lit_step (Kd.int .i64) _ 3 ?hg (N := 6) ?hd (xs := ([8388607, 1, 100, 4000000] : List Int)) (inner := [.int .i64 8388607, .int .i64 1, .int .i64 100, .int .i64 4000000]) (ok := fun _ => True) (okp := fun _ => True) ?hr ?hp (fun _ hk => hk) trivial (Below.refl _ _) (Nat.le_refl _) (by simp) ?_; (case hd => rfl); (case hg => rfl); (case hr => first | (go_simp; done) | (go_simp; rfl)); (case hp => exact (Reps.one (show Kd.M (Kd.int .i64) _ _ _ 8388607 [.int .i64 8388607] from rfl) (Reps.one (show Kd.M (Kd.int .i64) _ _ _ 1 [.int .i64 1] from rfl) (Reps.one (show Kd.M (Kd.int .i64) _ _ _ 100 [.int .i64 100] from rfl) (Reps.one (show Kd.M (Kd.int .i64) _ _ _ 4000000 [.int .i64 4000000] from rfl) (Reps.none _ _))))))
                  intro v160 w14 ho15 hb hg_ hnew_
                  clear hg_ hnew_
                  (first | rw [← Ny159.out] at ho15 | (simp only [Int.reduceToNat] at ho15; rw [← Ny159.out] at ho15))
                  have n0_ := Aside0.mk (Kd.R_lower ho15 (keep_size (w := w) (g := g) (row := none) (by repeat (first | (with_reducible first | exact HK.out | apply KeepBut.set_ | apply keep_drewN | apply keep_drew | apply keep_alloc | refine keep_far ?_ GW158.out _) | exact HK.out))))
                  have n2_ := Aside0.mk (blk_below (g := gb158) (o := .cells #[.int .i64 0, .int .i64 0, .int .i64 0] 23 (0, 0)) (by (with_reducible repeat (first | refine blk_drewN ?_ _ | refine blk_drew ?_ | refine blk_alloc ?_ _)); exact BK158.out) hb)
                  have n3_ := Aside0.mk (KeepBut.trans (by repeat (first | (with_reducible first | exact HK.out | apply KeepBut.set_ | apply keep_drewN | apply keep_drew | apply keep_alloc | refine keep_far ?_ GW158.out _) | exact HK.out)) (KeepBut.of_below hb g none) (.inl rfl))
                  have n4_ := Aside0.mk (below_step (by repeat (first | (with_reducible first | exact HB.out | apply below_alloc | apply pw_below_drewN | apply below_drew1 | refine below_set ?_ GE158.out) | exact HB.out)) hb)
                  have z_HI0 := fun (h0_ : b 2 = false) => (show IsS56 w0 w14 g s0_0 from by first | exact (IsS56.below (by repeat (first | (with_reducible first | exact (Q_HI0 h0_) | apply IsS56.alloc | apply IsS56.drewN | apply IsS56.drew | apply IsS56.set_0 | refine IsS56.far ?_ NB0_158.out _) | exact (Q_HI0 h0_))) hb))
                  have z_HI0_e2 := fun (h0_ : b 2 = true) (h1_ : b 7 = false) => (show IsS56 w0 w14 g t163 from by first | exact (IsS56.below (by repeat (first | (with_reducible first | exact (Q_HI0_e2 h0_ h1_) | apply IsS56.alloc | apply IsS56.drewN | apply IsS56.drew | apply IsS56.set_0 | refine IsS56.far ?_ NB0_158.out _) | exact (Q_HI0_e2 h0_ h1_))) hb))
                  have z_HO167 := fun (h0_ : b 5 = true) => (show Kd.R (Kd.int .i64) 3 w14 w.heap.size (fun _ => True) v166 y165 from by first | exact (Kd.R_elder' (by (with_reducible repeat (first | apply Kd.R_alloc | apply Kd.R_drewN | apply Kd.R_drew)); exact (Q_HO167 h0_)) (Kd.R_base ho15) hb) | exact Kd.R_mono (Kd.R_elder' (by (with_reducible repeat (first | apply Kd.R_alloc | apply Kd.R_drewN | apply Kd.R_drew)); exact (Q_HO167 h0_)) (Kd.R_base ho15) hb) (fun _ h_ => by first | trivial | exact h_ | exact h_.1))
                  have z_HI0_e7 := fun (h0_ : b 7 = true) => (show IsS56 w0 w14 g t169 from by first | exact (IsS56.below (by repeat (first | (with_reducible first | exact (Q_HI0_e7 h0_) | apply IsS56.alloc | apply IsS56.drewN | apply IsS56.drew | apply IsS56.set_0 | refine IsS56.far ?_ NB0_158.out _) | exact (Q_HI0_e7 h0_))) hb))
                  have z_BK175 := fun (h0_ : b 14 = true) (h1_ : b 15 = false) => (show w14.heap[gb175]? = some (.cells #[.int .i64 0, .int .i64 0, .int .i64 0] 23 (0, 0)) from by first | exact (blk_below (g := gb175) (o := .cells #[.int .i64 0, .int .i64 0, .int .i64 0] 23 (0, 0)) (by (with_reducible repeat (first | refine blk_drewN ?_ _ | refine blk_drew ?_ | refine blk_alloc ?_ _)); exact (Q_BK175 h0_ h1_)) hb))
                  clear BK158
                  clear HK
                  clear HB
                  have HO161 := n0_
                  have BK158 := n2_
                  have HK := n3_
                  have HB := n4_
                  clear n0_ n2_ n3_ n4_
                  clear hb ho15
                  obtain ⟨Ao16, co16, eo16⟩ := Kd.R_slice HO161.out
                  subst eo16
                  obtain ⟨ado16, fo16, _⟩ := Kd.at_int (Kd.R_reads' HO161.out).2.2 0 (by decide) (by rw [Ny159.out]; simp)
                  cases fo16
                  refine hK.out _ _ ⟨.slice (some ado16) y159.length co16, ado16, v166, adz_v166, gb175, m3_, m8_, m14_, (by rw [ha.out]; exact putSel_upk 0 hb_ rfl rfl rfl), (by (with_reducible repeat (first | refine blk_drewN ?_ _ | refine blk_drew ?_ | refine blk_alloc ?_ _)); exact BK158.out), z_HI0, (by repeat (first | (with_reducible first | exact HK.out | apply KeepBut.set_ | apply keep_drewN | apply keep_drew | apply keep_alloc | refine keep_far ?_ GW158.out _) | exact HK.out)), (by repeat (first | (with_reducible first | exact HB.out | apply below_alloc | apply pw_below_drewN | apply below_drew1 | refine below_set ?_ GE158.out) | exact HB.out)), fun _ => (by (with_reducible repeat (first | apply Kd.R_alloc | apply Kd.R_drewN | apply Kd.R_drew)); exact HO161.out), fun _ => ⟨_, rfl⟩, z_HI0_e2, z_HO167, Q_HA_HO167, z_HI0_e7, z_BK175, Q_GW175, Q_GE175, Q_NB0_175, Q_NB175_0, Q_NB158_175, Q_NB175_158, fun h0_ => absurd ((hoff 15 (by kernel_rfl)).symm.trans h0_) (by decide), fun h0_ => absurd ((hoff 3 (by kernel_rfl)).symm.trans h0_) (by decide), Q_X8_, Q_X14_⟩
                refine steps_cons ?_ ?_
                · rintro b a w' ⟨v160, adz_v160, v166, adz_v166, gb175, m3_, m8_, m14_, ha, Q_BK158, Q_HI0, Q_HK, Q_HB, Q_HO161, Q_HA_HO161, Q_HI0_e2, Q_HO167, Q_HA_HO167, Q_HI0_e7, Q_BK175, Q_GW175, Q_GE175, Q_NB0_175, Q_NB175_0, Q_NB158_175, Q_NB175_158, Q_BK175_e15, Q_X3_, Q_X8_, Q_X14_⟩ hb_ hon hoff
                  refine ⟨_, rfl, fun K hK => ?_⟩
                  have e7 : a.tmps[7]? = some (.pointer (some ⟨g, 0, none⟩)) := by rw [ha]; exact (putSel_off rfl).trans rfl
                  replace ha := Aside0.mk ha
                  have BK158 := Aside0.mk Q_BK158
                  have HI0 := Aside0.mk (Q_HI0 hb_)
                  have HK := Aside0.mk Q_HK
                  have HB := Aside0.mk Q_HB
                  refine goes_ Try.func21 (by kernel_rfl) rfl #[.pointer (some ⟨g, 0, none⟩), .int .i64 4] (by rfl) rfl rfl (by first | (simp only [List.map_toArray, List.map_cons, List.map_nil, Act.eval, Array.getD_eq_getD_getElem?, Option.getD_some, e7]; done) | (simp only [List.map_toArray, List.map_cons, List.map_nil, Act.eval, Array.getD_eq_getD_getElem?, Option.getD_some, e7]; rfl)) ?_
                  with_reducible refine (soundservicemade_Dice_Next.calls g s0_0 4 t162 t163 w0 _ ?side1 ?side2 A2.out).mono ?_
                  (case side1 => repeat (first | (with_reducible first | exact HI0.out | apply IsS56.alloc | apply IsS56.drewN | apply IsS56.drew | apply IsS56.set_0 | refine IsS56.far ?_ NB0_158.out _) | exact HI0.out))
                  (case side2 => repeat (first | (with_reducible first | exact HB.out | apply below_alloc | apply pw_below_drewN | apply below_drew1 | refine below_set ?_ (IsS56.ge HI0.out) | refine below_set ?_ GE158.out) | exact HB.out))
                  rintro e w14 ⟨rfl, hi, hb, hk⟩
                  refine ⟨_, rfl, ?_⟩
                  have n0_ := Aside0.mk (KeepBut.blk hk (g' := gb158) (o := .cells #[.int .i64 0, .int .i64 0, .int .i64 0] 23 (0, 0)) (by (with_reducible repeat (first | refine blk_drewN ?_ _ | refine blk_drew ?_ | refine blk_alloc ?_ _)); exact BK158.out) NB158_0.out (by simp))
                  have n1_ := Aside0.mk (KeepBut.trans (by repeat (first | (with_reducible first | exact HK.out | apply KeepBut.set_ | apply keep_drewN | apply keep_drew | apply keep_alloc | refine keep_far ?_ GW158.out _) | exact HK.out)) hk (.inl rfl))
                  have n2_ := Aside0.mk (hb)
                  have n3_ := Aside0.mk (hi)
                  have z_HO161 := fun (h0_ : b 0 = true) => (show Kd.R (Kd.int .i64) 3 w14 w.heap.size (fun _ => True) v160 y159 from by first | exact (Kd.R_mono (Kd.R_keep (IsS56.apart (show IsS56 w0 _ g s0_0 from by repeat (first | (with_reducible first | exact HI0.out | apply IsS56.alloc | apply IsS56.drewN | apply IsS56.drew | apply IsS56.set_0 | refine IsS56.far ?_ NB0_158.out _) | exact HI0.out)) (by (with_reducible repeat (first | apply Kd.R_alloc | apply Kd.R_drewN | apply Kd.R_drew)); exact (Q_HO161 h0_)) (by decide)) hk (fun _ h => h.2)) (fun _ h => h.1)) | exact Kd.R_mono (Kd.R_mono (Kd.R_keep (IsS56.apart (show IsS56 w0 _ g s0_0 from by repeat (first | (with_reducible first | exact HI0.out | apply IsS56.alloc | apply IsS56.drewN | apply IsS56.drew | apply IsS56.set_0 | refine IsS56.far ?_ NB0_158.out _) | exact HI0.out)) (by (with_reducible repeat (first | apply Kd.R_alloc | apply Kd.R_drewN | apply Kd.R_drew)); exact (Q_HO161 h0_)) (by decide)) hk (fun _ h => h.2)) (fun _ h => h.1)) (fun _ h_ => by first | trivial | exact h_ | exact h_.1))
                  have z_HO167 := fun (h0_ : b 5 = true) => (show Kd.R (Kd.int .i64) 3 w14 w.heap.size (fun _ => True) v166 y165 from by first | exact (Kd.R_mono (Kd.R_keep (IsS56.apart (show IsS56 w0 _ g s0_0 from by repeat (first | (with_reducible first | exact HI0.out | apply IsS56.alloc | apply IsS56.drewN | apply IsS56.drew | apply IsS56.set_0 | refine IsS56.far ?_ NB0_158.out _) | exact HI0.out)) (by (with_reducible repeat (first | apply Kd.R_alloc | apply Kd.R_drewN | apply Kd.R_drew)); exact (Q_HO167 h0_)) (by decide)) hk (fun _ h => h.2)) (fun _ h => h.1)) | exact Kd.R_mono (Kd.R_mono (Kd.R_keep (IsS56.apart (show IsS56 w0 _ g s0_0 from by repeat (first | (with_reducible first | exact HI0.out | apply IsS56.alloc | apply IsS56.drewN | apply IsS56.drew | apply IsS56.set_0 | refine IsS56.far ?_ NB0_158.out _) | exact HI0.out)) (by (with_reducible repeat (first | apply Kd.R_alloc | apply Kd.R_drewN | apply Kd.R_drew)); exact (Q_HO167 h0_)) (by decide)) hk (fun _ h => h.2)) (fun _ h => h.1)) (fun _ h_ => by first | trivial | exact h_ | exact h_.1))
                  have z_BK175 := fun (h0_ : b 14 = true) (h1_ : b 15 = false) => (show w14.heap[gb175]? = some (.cells #[.int .i64 0, .int .i64 0, .int .i64 0] 23 (0, 0)) from by first | exact (KeepBut.blk hk (g' := gb175) (o := .cells #[.int .i64 0, .int .i64 0, .int .i64 0] 23 (0, 0)) (by (with_reducible repeat (first | refine blk_drewN ?_ _ | refine blk_drew ?_ | refine blk_alloc ?_ _)); exact (Q_BK175 h0_ h1_)) (Q_NB175_0 h0_) (by simp)))
                  clear BK158
                  clear HK
                  clear HB
                  clear HI0
                  have BK158 := n0_
                  have HK := n1_
                  have HB := n2_
                  have HI0 := n3_
                  clear n0_ n1_ n2_ n3_
                  (try clear hb)
                  (try clear hb2)
                  (try clear hk)
                  (try clear hi)
                  (try clear hgw)
                  refine hK.out _ _ ⟨v160, adz_v160, v166, adz_v166, gb175, m3_, m8_, m14_, (by rw [ha.out]; exact putSel_upk 1 hb_ rfl rfl rfl), (by (with_reducible repeat (first | refine blk_drewN ?_ _ | refine blk_drew ?_ | refine blk_alloc ?_ _)); exact BK158.out), fun h0_ => absurd ((up_self b 2).symm.trans h0_) (by decide), (by repeat (first | (with_reducible first | exact HK.out | apply KeepBut.set_ | apply keep_drewN | apply keep_drew | apply keep_alloc | refine keep_far ?_ GW158.out _) | exact HK.out)), (by repeat (first | (with_reducible first | exact HB.out | apply below_alloc | apply pw_below_drewN | apply below_drew1 | refine below_set ?_ (IsS56.ge HI0.out) | refine below_set ?_ GE158.out) | exact HB.out)), z_HO161, Q_HA_HO161, fun _ _ => (by repeat (first | (with_reducible first | exact HI0.out | apply IsS56.alloc | apply IsS56.drewN | apply IsS56.drew | apply IsS56.set_0 | refine IsS56.far ?_ NB0_158.out _) | exact HI0.out)), z_HO167, Q_HA_HO167, fun h0_ => absurd ((hoff 7 (by kernel_rfl)).symm.trans h0_) (by decide), z_BK175, Q_GW175, Q_GE175, Q_NB0_175, Q_NB175_0, Q_NB158_175, Q_NB175_158, fun h0_ => absurd ((hoff 15 (by kernel_rfl)).symm.trans h0_) (by decide), fun h0_ => absurd ((hoff 3 (by kernel_rfl)).symm.trans h0_) (by decide), fun h0_ => absurd ((hoff 8 (by kernel_rfl)).symm.trans h0_) (by decide), Q_X14_⟩
                refine steps_cons ?_ ?_
                · rintro b a w' ⟨v160, adz_v160, v166, adz_v166, gb175, m3_, m8_, m14_, ha, Q_BK158, Q_HI0, Q_HK, Q_HB, Q_HO161, Q_HA_HO161, Q_HI0_e2, Q_HO167, Q_HA_HO167, Q_HI0_e7, Q_BK175, Q_GW175, Q_GE175, Q_NB0_175, Q_NB175_0, Q_NB158_175, Q_NB175_158, Q_BK175_e15, Q_X3_, Q_X8_, Q_X14_⟩ hb_ hon hoff
                  refine ⟨_, rfl, fun K hK => ?_⟩
                  have e6 : a.tmps[6]? = some (v160) := by rw [ha]; exact putSel_on (e := (0, 6, v160)) 0 rfl rfl (hon 0 (by kernel_rfl)) rfl
                  have e8 : a.tmps[8]? = some (.int .i64 t162) := by rw [ha]; exact putSel_on (e := (2, 8, .int .i64 t162)) 1 rfl rfl (hon 2 (by kernel_rfl)) rfl
                  replace ha := Aside0.mk ha
                  have BK158 := Aside0.mk Q_BK158
                  have HK := Aside0.mk Q_HK
                  have HB := Aside0.mk Q_HB
                  have HO161 := Aside0.mk (Q_HO161 (hon 0 (by kernel_rfl)))
                  have HA_HO161 := Aside0.mk (Q_HA_HO161 (hon 0 (by kernel_rfl)))
                  obtain ⟨c_, hv_⟩ := HA_HO161.out
                  rw [hv_] at e6
                  refine value_ (w1 := w') (v := .pointer (some (adz_v160.add (t162).toNat))) (by rfl) rfl ?_ ?_
                  · go_simp
                    (try simp only [i64_w])
                    try rfl
                  refine hK.out _ _ ⟨v160, adz_v160, v166, adz_v166, gb175, (.pointer (some (adz_v160.add (t162).toNat))), m8_, m14_, (by rw [ha.out]; exact putSel_upk 2 hb_ rfl rfl rfl), Q_BK158, fun h0_ => absurd ((hon 2 (by kernel_rfl)).symm.trans h0_) (by decide), Q_HK, Q_HB, Q_HO161, Q_HA_HO161, Q_HI0_e2, Q_HO167, Q_HA_HO167, Q_HI0_e7, Q_BK175, Q_GW175, Q_GE175, Q_NB0_175, Q_NB175_0, Q_NB158_175, Q_NB175_158, fun h0_ => absurd ((hoff 15 (by kernel_rfl)).symm.trans h0_) (by decide), fun _ => rfl, Q_X8_, Q_X14_⟩
                refine steps_cons ?_ ?_
                · rintro b a w' ⟨v160, adz_v160, v166, adz_v166, gb175, m3_, m8_, m14_, ha, Q_BK158, Q_HI0, Q_HK, Q_HB, Q_HO161, Q_HA_HO161, Q_HI0_e2, Q_HO167, Q_HA_HO167, Q_HI0_e7, Q_BK175, Q_GW175, Q_GE175, Q_NB0_175, Q_NB175_0, Q_NB158_175, Q_NB175_158, Q_BK175_e15, Q_X3_, Q_X8_, Q_X14_⟩ hb_ hon hoff
                  refine ⟨_, rfl, fun K hK => ?_⟩
                  have e9 : a.tmps[9]? = some (m3_) := by rw [ha]; exact putSel_on (e := (3, 9, m3_)) 2 rfl rfl (hon 3 (by kernel_rfl)) rfl
                  rw [Q_X3_ (hon 3 (by kernel_rfl))] at e9
                  replace ha := Aside0.mk ha
                  have BK158 := Aside0.mk Q_BK158
                  have HK := Aside0.mk Q_HK
                  have HB := Aside0.mk Q_HB
                  have HO161 := Aside0.mk (Q_HO161 (hon 0 (by kernel_rfl)))
                  have HA_HO161 := Aside0.mk (Q_HA_HO161 (hon 0 (by kernel_rfl)))
                  obtain ⟨c_, hv_⟩ := HA_HO161.out
                  have hF_ := HO161.out
                  rw [hv_] at hF_
                  obtain ⟨ad_, ea_, hx_⟩ := Kd.at_int (Kd.R_reads' hF_).2.2 t162 (of_eq_true pi164) (of_eq_true qi164)
                  cases ea_
                  refine value_ (w1 := w') (v := .int .i64 (rd y159 t162)) (by rfl) rfl ?_ ?_
                  · go_simp
                    (try simp only [i64_w])
                    try rfl
                  refine hK.out _ _ ⟨v160, adz_v160, v166, adz_v166, gb175, m3_, m8_, m14_, (by rw [ha.out]; exact putSel_upk 3 hb_ rfl rfl rfl), Q_BK158, fun h0_ => absurd ((hon 2 (by kernel_rfl)).symm.trans h0_) (by decide), Q_HK, Q_HB, Q_HO161, Q_HA_HO161, Q_HI0_e2, Q_HO167, Q_HA_HO167, Q_HI0_e7, Q_BK175, Q_GW175, Q_GE175, Q_NB0_175, Q_NB175_0, Q_NB158_175, Q_NB175_158, fun h0_ => absurd ((hoff 15 (by kernel_rfl)).symm.trans h0_) (by decide), Q_X3_, Q_X8_, Q_X14_⟩
                refine steps_cons ?_ ?_
                · rintro b a w' ⟨v160, adz_v160, v166, adz_v166, gb175, m3_, m8_, m14_, ha, Q_BK158, Q_HI0, Q_HK, Q_HB, Q_HO161, Q_HA_HO161, Q_HI0_e2, Q_HO167, Q_HA_HO167, Q_HI0_e7, Q_BK175, Q_GW175, Q_GE175, Q_NB0_175, Q_NB175_0, Q_NB158_175, Q_NB175_158, Q_BK175_e15, Q_X3_, Q_X8_, Q_X14_⟩ hb_ hon hoff
                  refine ⟨_, rfl, fun K hK => ?_⟩
                  replace ha := Aside0.mk ha
                  have BK158 := Aside0.mk Q_BK158
                  have HK := Aside0.mk Q_HK
                  have HB := Aside0.mk Q_HB
                  refine Kd.R_lit_step (Kd.int .i64) _ 3 ?hg (N := 11) ?hd (xs := ([1, 1000, 65536] : List Int)) (inner := [.int .i64 1, .int .i64 1000, .int .i64 65536]) (ok := fun _ => True) (okp := fun _ => True) ?hr ?hp (fun _ hk => hk) trivial (Below.refl _ _) (Nat.le_refl _) (by simp) ?_; (case hd => rfl); (case hg => rfl); (case hr => first | (go_simp; done) | (go_simp; rfl)); (case hp => exact (Reps.one (show Kd.M (Kd.int .i64) _ _ _ 1 [.int .i64 1] from rfl) (Reps.one (show Kd.M (Kd.int .i64) _ _ _ 1000 [.int .i64 1000] from rfl) (Reps.one (show Kd.M (Kd.int .i64) _ _ _ 65536 [.int .i64 65536] from rfl) (Reps.none _ _)))))
                  intro v166 w14 ho15 hb hg_ hnew_
                  clear hg_ hnew_
                  (first | rw [← Ny165.out] at ho15 | (simp only [Int.reduceToNat] at ho15; rw [← Ny165.out] at ho15))
                  have n0_ := Aside0.mk (Kd.R_lower ho15 (keep_size (w := w) (g := g) (row := none) (by repeat (first | (with_reducible first | exact HK.out | apply KeepBut.set_ | apply keep_drewN | apply keep_drew | apply keep_alloc | refine keep_far ?_ GW158.out _) | exact HK.out))))
                  have n2_ := Aside0.mk (blk_below (g := gb158) (o := .cells #[.int .i64 0, .int .i64 0, .int .i64 0] 23 (0, 0)) (by (with_reducible repeat (first | refine blk_drewN ?_ _ | refine blk_drew ?_ | refine blk_alloc ?_ _)); exact BK158.out) hb)
                  have n3_ := Aside0.mk (KeepBut.trans (by repeat (first | (with_reducible first | exact HK.out | apply KeepBut.set_ | apply keep_drewN | apply keep_drew | apply keep_alloc | refine keep_far ?_ GW158.out _) | exact HK.out)) (KeepBut.of_below hb g none) (.inl rfl))
                  have n4_ := Aside0.mk (below_step (by repeat (first | (with_reducible first | exact HB.out | apply below_alloc | apply pw_below_drewN | apply below_drew1 | refine below_set ?_ GE158.out) | exact HB.out)) hb)
                  have z_HI0 := fun (h0_ : b 2 = false) => (show IsS56 w0 w14 g s0_0 from by first | exact (IsS56.below (by repeat (first | (with_reducible first | exact (Q_HI0 h0_) | apply IsS56.alloc | apply IsS56.drewN | apply IsS56.drew | apply IsS56.set_0 | refine IsS56.far ?_ NB0_158.out _) | exact (Q_HI0 h0_))) hb))
                  have z_HO161 := fun (h0_ : b 0 = true) => (show Kd.R (Kd.int .i64) 3 w14 w.heap.size (fun _ => True) v160 y159 from by first | exact (Kd.R_elder' (by (with_reducible repeat (first | apply Kd.R_alloc | apply Kd.R_drewN | apply Kd.R_drew)); exact (Q_HO161 h0_)) (Kd.R_base ho15) hb) | exact Kd.R_mono (Kd.R_elder' (by (with_reducible repeat (first | apply Kd.R_alloc | apply Kd.R_drewN | apply Kd.R_drew)); exact (Q_HO161 h0_)) (Kd.R_base ho15) hb) (fun _ h_ => by first | trivial | exact h_ | exact h_.1))
                  have z_HI0_e2 := fun (h0_ : b 2 = true) (h1_ : b 7 = false) => (show IsS56 w0 w14 g t163 from by first | exact (IsS56.below (by repeat (first | (with_reducible first | exact (Q_HI0_e2 h0_ h1_) | apply IsS56.alloc | apply IsS56.drewN | apply IsS56.drew | apply IsS56.set_0 | refine IsS56.far ?_ NB0_158.out _) | exact (Q_HI0_e2 h0_ h1_))) hb))
                  have z_HI0_e7 := fun (h0_ : b 7 = true) => (show IsS56 w0 w14 g t169 from by first | exact (IsS56.below (by repeat (first | (with_reducible first | exact (Q_HI0_e7 h0_) | apply IsS56.alloc | apply IsS56.drewN | apply IsS56.drew | apply IsS56.set_0 | refine IsS56.far ?_ NB0_158.out _) | exact (Q_HI0_e7 h0_))) hb))
                  have z_BK175 := fun (h0_ : b 14 = true) (h1_ : b 15 = false) => (show w14.heap[gb175]? = some (.cells #[.int .i64 0, .int .i64 0, .int .i64 0] 23 (0, 0)) from by first | exact (blk_below (g := gb175) (o := .cells #[.int .i64 0, .int .i64 0, .int .i64 0] 23 (0, 0)) (by (with_reducible repeat (first | refine blk_drewN ?_ _ | refine blk_drew ?_ | refine blk_alloc ?_ _)); exact (Q_BK175 h0_ h1_)) hb))
                  clear BK158
                  clear HK
                  clear HB
                  have HO167 := n0_
                  have BK158 := n2_
                  have HK := n3_
                  have HB := n4_
                  clear n0_ n2_ n3_ n4_
                  clear hb ho15
                  obtain ⟨Ao16, co16, eo16⟩ := Kd.R_slice HO167.out
                  subst eo16
                  obtain ⟨ado16, fo16, _⟩ := Kd.at_int (Kd.R_reads' HO167.out).2.2 0 (by decide) (by rw [Ny165.out]; simp)
                  cases fo16
                  refine hK.out _ _ ⟨v160, adz_v160, .slice (some ado16) y165.length co16, ado16, gb175, m3_, m8_, m14_, (by rw [ha.out]; exact putSel_upk 4 hb_ rfl rfl rfl), (by (with_reducible repeat (first | refine blk_drewN ?_ _ | refine blk_drew ?_ | refine blk_alloc ?_ _)); exact BK158.out), z_HI0, (by repeat (first | (with_reducible first | exact HK.out | apply KeepBut.set_ | apply keep_drewN | apply keep_drew | apply keep_alloc | refine keep_far ?_ GW158.out _) | exact HK.out)), (by repeat (first | (with_reducible first | exact HB.out | apply below_alloc | apply pw_below_drewN | apply below_drew1 | refine below_set ?_ GE158.out) | exact HB.out)), z_HO161, Q_HA_HO161, z_HI0_e2, fun _ => (by (with_reducible repeat (first | apply Kd.R_alloc | apply Kd.R_drewN | apply Kd.R_drew)); exact HO167.out), fun _ => ⟨_, rfl⟩, z_HI0_e7, z_BK175, Q_GW175, Q_GE175, Q_NB0_175, Q_NB175_0, Q_NB158_175, Q_NB175_158, fun h0_ => absurd ((hoff 15 (by kernel_rfl)).symm.trans h0_) (by decide), Q_X3_, fun h0_ => absurd ((hoff 8 (by kernel_rfl)).symm.trans h0_) (by decide), Q_X14_⟩
                refine steps_cons ?_ ?_
                · rintro b a w' ⟨v160, adz_v160, v166, adz_v166, gb175, m3_, m8_, m14_, ha, Q_BK158, Q_HI0, Q_HK, Q_HB, Q_HO161, Q_HA_HO161, Q_HI0_e2, Q_HO167, Q_HA_HO167, Q_HI0_e7, Q_BK175, Q_GW175, Q_GE175, Q_NB0_175, Q_NB175_0, Q_NB158_175, Q_NB175_158, Q_BK175_e15, Q_X3_, Q_X8_, Q_X14_⟩ hb_ hon hoff
                  refine ⟨_, rfl, fun K hK => ?_⟩
                  have e12 : a.tmps[12]? = some (.pointer (some ⟨g, 0, none⟩)) := by rw [ha]; exact (putSel_off rfl).trans rfl
                  replace ha := Aside0.mk ha
                  have BK158 := Aside0.mk Q_BK158
                  have HK := Aside0.mk Q_HK
                  have HB := Aside0.mk Q_HB
                  have HI0 := Aside0.mk (Q_HI0_e2 (hon 2 (by kernel_rfl)) hb_)
                  refine goes_ Try.func21 (by kernel_rfl) rfl #[.pointer (some ⟨g, 0, none⟩), .int .i64 3] (by rfl) rfl rfl (by first | (simp only [List.map_toArray, List.map_cons, List.map_nil, Act.eval, Array.getD_eq_getD_getElem?, Option.getD_some, e12]; done) | (simp only [List.map_toArray, List.map_cons, List.map_nil, Act.eval, Array.getD_eq_getD_getElem?, Option.getD_some, e12]; rfl)) ?_
                  with_reducible refine (soundservicemade_Dice_Next.calls g t163 3 t168 t169 w0 _ ?side1 ?side2 A5.out).mono ?_
                  (case side1 => repeat (first | (with_reducible first | exact HI0.out | apply IsS56.alloc | apply IsS56.drewN | apply IsS56.drew | apply IsS56.set_0 | refine IsS56.far ?_ NB0_158.out _) | exact HI0.out))
                  (case side2 => repeat (first | (with_reducible first | exact HB.out | apply below_alloc | apply pw_below_drewN | apply below_drew1 | refine below_set ?_ (IsS56.ge HI0.out) | refine below_set ?_ GE158.out) | exact HB.out))
                  rintro e w16 ⟨rfl, hi, hb, hk⟩
                  refine ⟨_, rfl, ?_⟩
                  have n0_ := Aside0.mk (KeepBut.blk hk (g' := gb158) (o := .cells #[.int .i64 0, .int .i64 0, .int .i64 0] 23 (0, 0)) (by (with_reducible repeat (first | refine blk_drewN ?_ _ | refine blk_drew ?_ | refine blk_alloc ?_ _)); exact BK158.out) NB158_0.out (by simp))
                  have n1_ := Aside0.mk (KeepBut.trans (by repeat (first | (with_reducible first | exact HK.out | apply KeepBut.set_ | apply keep_drewN | apply keep_drew | apply keep_alloc | refine keep_far ?_ GW158.out _) | exact HK.out)) hk (.inl rfl))
                  have n2_ := Aside0.mk (hb)
                  have n3_ := Aside0.mk (hi)
                  have z_HO161 := fun (h0_ : b 0 = true) => (show Kd.R (Kd.int .i64) 3 w16 w.heap.size (fun _ => True) v160 y159 from by first | exact (Kd.R_mono (Kd.R_keep (IsS56.apart (show IsS56 w0 _ g t163 from by repeat (first | (with_reducible first | exact HI0.out | apply IsS56.alloc | apply IsS56.drewN | apply IsS56.drew | apply IsS56.set_0 | refine IsS56.far ?_ NB0_158.out _) | exact HI0.out)) (by (with_reducible repeat (first | apply Kd.R_alloc | apply Kd.R_drewN | apply Kd.R_drew)); exact (Q_HO161 h0_)) (by decide)) hk (fun _ h => h.2)) (fun _ h => h.1)) | exact Kd.R_mono (Kd.R_mono (Kd.R_keep (IsS56.apart (show IsS56 w0 _ g t163 from by repeat (first | (with_reducible first | exact HI0.out | apply IsS56.alloc | apply IsS56.drewN | apply IsS56.drew | apply IsS56.set_0 | refine IsS56.far ?_ NB0_158.out _) | exact HI0.out)) (by (with_reducible repeat (first | apply Kd.R_alloc | apply Kd.R_drewN | apply Kd.R_drew)); exact (Q_HO161 h0_)) (by decide)) hk (fun _ h => h.2)) (fun _ h => h.1)) (fun _ h_ => by first | trivial | exact h_ | exact h_.1))
                  have z_HO167 := fun (h0_ : b 5 = true) => (show Kd.R (Kd.int .i64) 3 w16 w.heap.size (fun _ => True) v166 y165 from by first | exact (Kd.R_mono (Kd.R_keep (IsS56.apart (show IsS56 w0 _ g t163 from by repeat (first | (with_reducible first | exact HI0.out | apply IsS56.alloc | apply IsS56.drewN | apply IsS56.drew | apply IsS56.set_0 | refine IsS56.far ?_ NB0_158.out _) | exact HI0.out)) (by (with_reducible repeat (first | apply Kd.R_alloc | apply Kd.R_drewN | apply Kd.R_drew)); exact (Q_HO167 h0_)) (by decide)) hk (fun _ h => h.2)) (fun _ h => h.1)) | exact Kd.R_mono (Kd.R_mono (Kd.R_keep (IsS56.apart (show IsS56 w0 _ g t163 from by repeat (first | (with_reducible first | exact HI0.out | apply IsS56.alloc | apply IsS56.drewN | apply IsS56.drew | apply IsS56.set_0 | refine IsS56.far ?_ NB0_158.out _) | exact HI0.out)) (by (with_reducible repeat (first | apply Kd.R_alloc | apply Kd.R_drewN | apply Kd.R_drew)); exact (Q_HO167 h0_)) (by decide)) hk (fun _ h => h.2)) (fun _ h => h.1)) (fun _ h_ => by first | trivial | exact h_ | exact h_.1))
                  have z_BK175 := fun (h0_ : b 14 = true) (h1_ : b 15 = false) => (show w16.heap[gb175]? = some (.cells #[.int .i64 0, .int .i64 0, .int .i64 0] 23 (0, 0)) from by first | exact (KeepBut.blk hk (g' := gb175) (o := .cells #[.int .i64 0, .int .i64 0, .int .i64 0] 23 (0, 0)) (by (with_reducible repeat (first | refine blk_drewN ?_ _ | refine blk_drew ?_ | refine blk_alloc ?_ _)); exact (Q_BK175 h0_ h1_)) (Q_NB175_0 h0_) (by simp)))
                  clear BK158
                  clear HK
                  clear HB
                  clear HI0
                  have BK158 := n0_
                  have HK := n1_
                  have HB := n2_
                  have HI0 := n3_
                  clear n0_ n1_ n2_ n3_
                  (try clear hb)
                  (try clear hb2)
                  (try clear hk)
                  (try clear hi)
                  (try clear hgw)
                  refine hK.out _ _ ⟨v160, adz_v160, v166, adz_v166, gb175, m3_, m8_, m14_, (by rw [ha.out]; exact putSel_upk 5 hb_ rfl rfl rfl), (by (with_reducible repeat (first | refine blk_drewN ?_ _ | refine blk_drew ?_ | refine blk_alloc ?_ _)); exact BK158.out), fun h0_ => absurd ((hon 2 (by kernel_rfl)).symm.trans h0_) (by decide), (by repeat (first | (with_reducible first | exact HK.out | apply KeepBut.set_ | apply keep_drewN | apply keep_drew | apply keep_alloc | refine keep_far ?_ GW158.out _) | exact HK.out)), (by repeat (first | (with_reducible first | exact HB.out | apply below_alloc | apply pw_below_drewN | apply below_drew1 | refine below_set ?_ (IsS56.ge HI0.out) | refine below_set ?_ GE158.out) | exact HB.out)), z_HO161, Q_HA_HO161, fun _ h1_ => absurd ((up_self b 7).symm.trans h1_) (by decide), z_HO167, Q_HA_HO167, fun _ => (by repeat (first | (with_reducible first | exact HI0.out | apply IsS56.alloc | apply IsS56.drewN | apply IsS56.drew | apply IsS56.set_0 | refine IsS56.far ?_ NB0_158.out _) | exact HI0.out)), z_BK175, Q_GW175, Q_GE175, Q_NB0_175, Q_NB175_0, Q_NB158_175, Q_NB175_158, fun h0_ => absurd ((hoff 15 (by kernel_rfl)).symm.trans h0_) (by decide), Q_X3_, fun h0_ => absurd ((hoff 8 (by kernel_rfl)).symm.trans h0_) (by decide), Q_X14_⟩
                refine steps_cons ?_ ?_
                · rintro b a w' ⟨v160, adz_v160, v166, adz_v166, gb175, m3_, m8_, m14_, ha, Q_BK158, Q_HI0, Q_HK, Q_HB, Q_HO161, Q_HA_HO161, Q_HI0_e2, Q_HO167, Q_HA_HO167, Q_HI0_e7, Q_BK175, Q_GW175, Q_GE175, Q_NB0_175, Q_NB175_0, Q_NB158_175, Q_NB175_158, Q_BK175_e15, Q_X3_, Q_X8_, Q_X14_⟩ hb_ hon hoff
                  refine ⟨_, rfl, fun K hK => ?_⟩
                  have e11 : a.tmps[11]? = some (v166) := by rw [ha]; exact putSel_on (e := (5, 11, v166)) 4 rfl rfl (hon 5 (by kernel_rfl)) rfl
                  have e13 : a.tmps[13]? = some (.int .i64 t168) := by rw [ha]; exact putSel_on (e := (7, 13, .int .i64 t168)) 5 rfl rfl (hon 7 (by kernel_rfl)) rfl
                  replace ha := Aside0.mk ha
                  have BK158 := Aside0.mk Q_BK158
                  have HK := Aside0.mk Q_HK
                  have HB := Aside0.mk Q_HB
                  have HO167 := Aside0.mk (Q_HO167 (hon 5 (by kernel_rfl)))
                  have HA_HO167 := Aside0.mk (Q_HA_HO167 (hon 5 (by kernel_rfl)))
                  have HI0 := Aside0.mk (Q_HI0_e7 (hon 7 (by kernel_rfl)))
                  obtain ⟨c_, hv_⟩ := HA_HO167.out
                  rw [hv_] at e11
                  refine value_ (w1 := w') (v := .pointer (some (adz_v166.add (t168).toNat))) (by rfl) rfl ?_ ?_
                  · go_simp
                    (try simp only [i64_w])
                    try rfl
                  refine hK.out _ _ ⟨v160, adz_v160, v166, adz_v166, gb175, m3_, (.pointer (some (adz_v166.add (t168).toNat))), m14_, (by rw [ha.out]; exact putSel_upk 6 hb_ rfl rfl rfl), Q_BK158, fun h0_ => absurd ((hon 2 (by kernel_rfl)).symm.trans h0_) (by decide), Q_HK, Q_HB, Q_HO161, Q_HA_HO161, fun _ h1_ => absurd ((hon 7 (by kernel_rfl)).symm.trans h1_) (by decide), Q_HO167, Q_HA_HO167, Q_HI0_e7, Q_BK175, Q_GW175, Q_GE175, Q_NB0_175, Q_NB175_0, Q_NB158_175, Q_NB175_158, fun h0_ => absurd ((hoff 15 (by kernel_rfl)).symm.trans h0_) (by decide), Q_X3_, fun _ => rfl, Q_X14_⟩
                refine steps_cons ?_ ?_
                · rintro b a w' ⟨v160, adz_v160, v166, adz_v166, gb175, m3_, m8_, m14_, ha, Q_BK158, Q_HI0, Q_HK, Q_HB, Q_HO161, Q_HA_HO161, Q_HI0_e2, Q_HO167, Q_HA_HO167, Q_HI0_e7, Q_BK175, Q_GW175, Q_GE175, Q_NB0_175, Q_NB175_0, Q_NB158_175, Q_NB175_158, Q_BK175_e15, Q_X3_, Q_X8_, Q_X14_⟩ hb_ hon hoff
                  refine ⟨_, rfl, fun K hK => ?_⟩
                  have e14 : a.tmps[14]? = some (m8_) := by rw [ha]; exact putSel_on (e := (8, 14, m8_)) 6 rfl rfl (hon 8 (by kernel_rfl)) rfl
                  rw [Q_X8_ (hon 8 (by kernel_rfl))] at e14
                  replace ha := Aside0.mk ha
                  have BK158 := Aside0.mk Q_BK158
                  have HK := Aside0.mk Q_HK
                  have HB := Aside0.mk Q_HB
                  have HO167 := Aside0.mk (Q_HO167 (hon 5 (by kernel_rfl)))
                  have HA_HO167 := Aside0.mk (Q_HA_HO167 (hon 5 (by kernel_rfl)))
                  have HI0 := Aside0.mk (Q_HI0_e7 (hon 7 (by kernel_rfl)))
                  obtain ⟨c_, hv_⟩ := HA_HO167.out
                  have hF_ := HO167.out
                  rw [hv_] at hF_
                  obtain ⟨ad_, ea_, hx_⟩ := Kd.at_int (Kd.R_reads' hF_).2.2 t168 (of_eq_true pi170) (of_eq_true qi170)
                  cases ea_
                  refine value_ (w1 := w') (v := .int .i64 (rd y165 t168)) (by rfl) rfl ?_ ?_
                  · go_simp
                    (try simp only [i64_w])
                    try rfl
                  refine hK.out _ _ ⟨v160, adz_v160, v166, adz_v166, gb175, m3_, m8_, m14_, (by rw [ha.out]; exact putSel_upk 7 hb_ rfl rfl rfl), Q_BK158, fun h0_ => absurd ((hon 2 (by kernel_rfl)).symm.trans h0_) (by decide), Q_HK, Q_HB, Q_HO161, Q_HA_HO161, fun _ h1_ => absurd ((hon 7 (by kernel_rfl)).symm.trans h1_) (by decide), Q_HO167, Q_HA_HO167, Q_HI0_e7, Q_BK175, Q_GW175, Q_GE175, Q_NB0_175, Q_NB175_0, Q_NB158_175, Q_NB175_158, fun h0_ => absurd ((hoff 15 (by kernel_rfl)).symm.trans h0_) (by decide), Q_X3_, Q_X8_, Q_X14_⟩
                refine steps_cons ?_ ?_
                · rintro b a w' ⟨v160, adz_v160, v166, adz_v166, gb175, m3_, m8_, m14_, ha, Q_BK158, Q_HI0, Q_HK, Q_HB, Q_HO161, Q_HA_HO161, Q_HI0_e2, Q_HO167, Q_HA_HO167, Q_HI0_e7, Q_BK175, Q_GW175, Q_GE175, Q_NB0_175, Q_NB175_0, Q_NB158_175, Q_NB175_158, Q_BK175_e15, Q_X3_, Q_X8_, Q_X14_⟩ hb_ hon hoff
                  refine ⟨_, rfl, fun K hK => ?_⟩
                  have e10 : a.tmps[10]? = some (.int .i64 (rd y159 t162)) := by rw [ha]; exact putSel_on (e := (4, 10, .int .i64 (rd y159 t162))) 3 rfl rfl (hon 4 (by kernel_rfl)) rfl
                  have e15 : a.tmps[15]? = some (.int .i64 (rd y165 t168)) := by rw [ha]; exact putSel_on (e := (9, 15, .int .i64 (rd y165 t168))) 7 rfl rfl (hon 9 (by kernel_rfl)) rfl
                  replace ha := Aside0.mk ha
                  have BK158 := Aside0.mk Q_BK158
                  have HK := Aside0.mk Q_HK
                  have HB := Aside0.mk Q_HB
                  have HO161 := Aside0.mk (Q_HO161 (hon 0 (by kernel_rfl)))
                  have HA_HO161 := Aside0.mk (Q_HA_HO161 (hon 0 (by kernel_rfl)))
                  have HO167 := Aside0.mk (Q_HO167 (hon 5 (by kernel_rfl)))
                  have HA_HO167 := Aside0.mk (Q_HA_HO167 (hon 5 (by kernel_rfl)))
                  have HI0 := Aside0.mk (Q_HI0_e7 (hon 7 (by kernel_rfl)))
                  obtain ⟨co23, eo23⟩ := HA_HO161.out
                  clear HA_HO161
                  subst eo23
                  obtain ⟨co24, eo24⟩ := HA_HO167.out
                  clear HA_HO167
                  subst eo24
                  refine goes_ Try.func16 (by kernel_rfl) rfl #[.int .i64 (rd y159 t162), .int .i64 (rd y165 t168)] (by rfl) rfl rfl (by first | (simp only [List.map_toArray, List.map_cons, List.map_nil, Act.eval, Array.getD_eq_getD_getElem?, Option.getD_some, e10, e15]; done) | (simp only [List.map_toArray, List.map_cons, List.map_nil, Act.eval, Array.getD_eq_getD_getElem?, Option.getD_some, e10, e15]; rfl)) ?_
                  with_reducible refine (soundserviceref08_New.calls (rd y159 t162) (rd y165 t168) t171 t172 t173 t174 _ A8.out).mono ?_
                  rintro e w25 ⟨rfl, hb⟩
                  refine ⟨_, rfl, ?_⟩
                  have n0_ := Aside0.mk (Kd.R_below (by (with_reducible repeat (first | apply Kd.R_alloc | apply Kd.R_drewN | apply Kd.R_drew)); exact HO161.out) hb)
                  have n1_ := Aside0.mk (Kd.R_below (by (with_reducible repeat (first | apply Kd.R_alloc | apply Kd.R_drewN | apply Kd.R_drew)); exact HO167.out) hb)
                  have n2_ := Aside0.mk (IsS56.below (by repeat (first | (with_reducible first | exact HI0.out | apply IsS56.alloc | apply IsS56.drewN | apply IsS56.drew | apply IsS56.set_0 | refine IsS56.far ?_ NB0_158.out _) | exact HI0.out)) hb)
                  have n3_ := Aside0.mk (blk_below (g := gb158) (o := .cells #[.int .i64 0, .int .i64 0, .int .i64 0] 23 (0, 0)) (by (with_reducible repeat (first | refine blk_drewN ?_ _ | refine blk_drew ?_ | refine blk_alloc ?_ _)); exact BK158.out) hb)
                  have n4_ := Aside0.mk (KeepBut.trans (by repeat (first | (with_reducible first | exact HK.out | apply KeepBut.set_ | apply keep_drewN | apply keep_drew | apply keep_alloc | refine keep_far ?_ GW158.out _) | exact HK.out)) (KeepBut.of_below hb g none) (.inl rfl))
                  have n5_ := Aside0.mk (below_step (by repeat (first | (with_reducible first | exact HB.out | apply below_alloc | apply pw_below_drewN | apply below_drew1 | refine below_set ?_ (IsS56.ge HI0.out) | refine below_set ?_ GE158.out) | exact HB.out)) hb)
                  have z_BK175 := fun (h0_ : b 14 = true) (h1_ : b 15 = false) => (show w25.heap[gb175]? = some (.cells #[.int .i64 0, .int .i64 0, .int .i64 0] 23 (0, 0)) from by first | exact (blk_below (g := gb175) (o := .cells #[.int .i64 0, .int .i64 0, .int .i64 0] 23 (0, 0)) (by (with_reducible repeat (first | refine blk_drewN ?_ _ | refine blk_drew ?_ | refine blk_alloc ?_ _)); exact (Q_BK175 h0_ h1_)) hb))
                  clear HO161
                  clear HO167
                  clear HI0
                  clear BK158
                  clear HK
                  clear HB
                  have HO161 := n0_
                  have HO167 := n1_
                  have HI0 := n2_
                  have BK158 := n3_
                  have HK := n4_
                  have HB := n5_
                  clear n0_ n1_ n2_ n3_ n4_ n5_
                  (try clear hb)
                  (try clear hb2)
                  (try clear hk)
                  (try clear hi)
                  (try clear hgw)
                  refine hK.out _ _ ⟨.slice (some adz_v160) y159.length co23, adz_v160, .slice (some adz_v166) y165.length co24, adz_v166, gb175, m3_, m8_, m14_, (by rw [ha.out]; exact putSel_upk 8 hb_ rfl rfl rfl), (by (with_reducible repeat (first | refine blk_drewN ?_ _ | refine blk_drew ?_ | refine blk_alloc ?_ _)); exact BK158.out), fun h0_ => absurd ((hon 2 (by kernel_rfl)).symm.trans h0_) (by decide), (by repeat (first | (with_reducible first | exact HK.out | apply KeepBut.set_ | apply keep_drewN | apply keep_drew | apply keep_alloc | refine keep_far ?_ GW158.out _) | exact HK.out)), (by repeat (first | (with_reducible first | exact HB.out | apply below_alloc | apply pw_below_drewN | apply below_drew1 | refine below_set ?_ (IsS56.ge HI0.out) | refine below_set ?_ GE158.out) | exact HB.out)), fun _ => (by (with_reducible repeat (first | apply Kd.R_alloc | apply Kd.R_drewN | apply Kd.R_drew)); exact HO161.out), fun _ => ⟨_, rfl⟩, fun _ h1_ => absurd ((hon 7 (by kernel_rfl)).symm.trans h1_) (by decide), fun _ => (by (with_reducible repeat (first | apply Kd.R_alloc | apply Kd.R_drewN | apply Kd.R_drew)); exact HO167.out), fun _ => ⟨_, rfl⟩, fun _ => (by repeat (first | (with_reducible first | exact HI0.out | apply IsS56.alloc | apply IsS56.drewN | apply IsS56.drew | apply IsS56.set_0 | refine IsS56.far ?_ NB0_158.out _) | exact HI0.out)), z_BK175, Q_GW175, Q_GE175, Q_NB0_175, Q_NB175_0, Q_NB158_175, Q_NB175_158, fun h0_ => absurd ((hoff 15 (by kernel_rfl)).symm.trans h0_) (by decide), Q_X3_, Q_X8_, Q_X14_⟩
                refine steps_cons ?_ ?_
                · rintro b a w' ⟨v160, adz_v160, v166, adz_v166, gb175, m3_, m8_, m14_, ha, Q_BK158, Q_HI0, Q_HK, Q_HB, Q_HO161, Q_HA_HO161, Q_HI0_e2, Q_HO167, Q_HA_HO167, Q_HI0_e7, Q_BK175, Q_GW175, Q_GE175, Q_NB0_175, Q_NB175_0, Q_NB158_175, Q_NB175_158, Q_BK175_e15, Q_X3_, Q_X8_, Q_X14_⟩ hb_ hon hoff
                  refine ⟨_, rfl, fun K hK => ?_⟩
                  have e16 : a.tmps[16]? = some (.tuple #[.agg #[.int .i64 t171, .int .i64 t172, .int .i64 t173], .int .i64 t174]) := by rw [ha]; exact putSel_on (e := (10, 16, .tuple #[.agg #[.int .i64 t171, .int .i64 t172, .int .i64 t173], .int .i64 t174])) 8 rfl rfl (hon 10 (by kernel_rfl)) rfl
                  replace ha := Aside0.mk ha
                  have BK158 := Aside0.mk Q_BK158
                  have HK := Aside0.mk Q_HK
                  have HB := Aside0.mk Q_HB
                  have HO161 := Aside0.mk (Q_HO161 (hon 0 (by kernel_rfl)))
                  have HA_HO161 := Aside0.mk (Q_HA_HO161 (hon 0 (by kernel_rfl)))
                  have HO167 := Aside0.mk (Q_HO167 (hon 5 (by kernel_rfl)))
                  have HA_HO167 := Aside0.mk (Q_HA_HO167 (hon 5 (by kernel_rfl)))
                  have HI0 := Aside0.mk (Q_HI0_e7 (hon 7 (by kernel_rfl)))
                  refine value_ (w1 := w') (v := .tuple #[.agg #[.int .i64 t171, .int .i64 t172, .int .i64 t173], .int .i64 t174]) (by rfl) rfl ?_ ?_
                  · go_simp
                    (try simp only [i64_w])
                    try rfl
                  refine hK.out _ _ ⟨v160, adz_v160, v166, adz_v166, gb175, m3_, m8_, m14_, (by rw [ha.out]; exact putSel_upk 9 hb_ rfl rfl rfl), Q_BK158, fun h0_ => absurd ((hon 2 (by kernel_rfl)).symm.trans h0_) (by decide), Q_HK, Q_HB, Q_HO161, Q_HA_HO161, fun _ h1_ => absurd ((hon 7 (by kernel_rfl)).symm.trans h1_) (by decide), Q_HO167, Q_HA_HO167, Q_HI0_e7, Q_BK175, Q_GW175, Q_GE175, Q_NB0_175, Q_NB175_0, Q_NB158_175, Q_NB175_158, fun h0_ => absurd ((hoff 15 (by kernel_rfl)).symm.trans h0_) (by decide), Q_X3_, Q_X8_, Q_X14_⟩
                refine steps_cons ?_ ?_
                · rintro b a w' ⟨v160, adz_v160, v166, adz_v166, gb175, m3_, m8_, m14_, ha, Q_BK158, Q_HI0, Q_HK, Q_HB, Q_HO161, Q_HA_HO161, Q_HI0_e2, Q_HO167, Q_HA_HO167, Q_HI0_e7, Q_BK175, Q_GW175, Q_GE175, Q_NB0_175, Q_NB175_0, Q_NB158_175, Q_NB175_158, Q_BK175_e15, Q_X3_, Q_X8_, Q_X14_⟩ hb_ hon hoff
                  refine ⟨_, rfl, fun K hK => ?_⟩
                  have e5 : a.tmps[5]? = some (.tuple #[.agg #[.int .i64 t171, .int .i64 t172, .int .i64 t173], .int .i64 t174]) := by rw [ha]; exact putSel_on (e := (11, 5, .tuple #[.agg #[.int .i64 t171, .int .i64 t172, .int .i64 t173], .int .i64 t174])) 9 rfl rfl (hon 11 (by kernel_rfl)) rfl
                  replace ha := Aside0.mk ha
                  have BK158 := Aside0.mk Q_BK158
                  have HK := Aside0.mk Q_HK
                  have HB := Aside0.mk Q_HB
                  have HO161 := Aside0.mk (Q_HO161 (hon 0 (by kernel_rfl)))
                  have HA_HO161 := Aside0.mk (Q_HA_HO161 (hon 0 (by kernel_rfl)))
                  have HO167 := Aside0.mk (Q_HO167 (hon 5 (by kernel_rfl)))
                  have HA_HO167 := Aside0.mk (Q_HA_HO167 (hon 5 (by kernel_rfl)))
                  have HI0 := Aside0.mk (Q_HI0_e7 (hon 7 (by kernel_rfl)))
                  refine value_ (w1 := w') (v := .agg #[.int .i64 t171, .int .i64 t172, .int .i64 t173]) (by rfl) rfl ?_ ?_
                  · go_simp
                    (try simp only [i64_w])
                    try rfl
                  refine hK.out _ _ ⟨v160, adz_v160, v166, adz_v166, gb175, m3_, m8_, m14_, (by rw [ha.out]; exact putSel_upk 10 hb_ rfl rfl rfl), Q_BK158, fun h0_ => absurd ((hon 2 (by kernel_rfl)).symm.trans h0_) (by decide), Q_HK, Q_HB, Q_HO161, Q_HA_HO161, fun _ h1_ => absurd ((hon 7 (by kernel_rfl)).symm.trans h1_) (by decide), Q_HO167, Q_HA_HO167, Q_HI0_e7, Q_BK175, Q_GW175, Q_GE175, Q_NB0_175, Q_NB175_0, Q_NB158_175, Q_NB175_158, fun h0_ => absurd ((hoff 15 (by kernel_rfl)).symm.trans h0_) (by decide), Q_X3_, Q_X8_, Q_X14_⟩
                refine steps_cons ?_ ?_
                · rintro b a w' ⟨v160, adz_v160, v166, adz_v166, gb175, m3_, m8_, m14_, ha, Q_BK158, Q_HI0, Q_HK, Q_HB, Q_HO161, Q_HA_HO161, Q_HI0_e2, Q_HO167, Q_HA_HO167, Q_HI0_e7, Q_BK175, Q_GW175, Q_GE175, Q_NB0_175, Q_NB175_0, Q_NB158_175, Q_NB175_158, Q_BK175_e15, Q_X3_, Q_X8_, Q_X14_⟩ hb_ hon hoff
                  refine ⟨_, rfl, fun K hK => ?_⟩
                  have e5 : a.tmps[5]? = some (.tuple #[.agg #[.int .i64 t171, .int .i64 t172, .int .i64 t173], .int .i64 t174]) := by rw [ha]; exact putSel_on (e := (11, 5, .tuple #[.agg #[.int .i64 t171, .int .i64 t172, .int .i64 t173], .int .i64 t174])) 9 rfl rfl (hon 11 (by kernel_rfl)) rfl
                  replace ha := Aside0.mk ha
                  have BK158 := Aside0.mk Q_BK158
                  have HK := Aside0.mk Q_HK
                  have HB := Aside0.mk Q_HB
                  have HO161 := Aside0.mk (Q_HO161 (hon 0 (by kernel_rfl)))
                  have HA_HO161 := Aside0.mk (Q_HA_HO161 (hon 0 (by kernel_rfl)))
                  have HO167 := Aside0.mk (Q_HO167 (hon 5 (by kernel_rfl)))
                  have HA_HO167 := Aside0.mk (Q_HA_HO167 (hon 5 (by kernel_rfl)))
                  have HI0 := Aside0.mk (Q_HI0_e7 (hon 7 (by kernel_rfl)))
                  refine value_ (w1 := w') (v := .int .i64 t174) (by rfl) rfl ?_ ?_
                  · go_simp
                    (try simp only [i64_w])
                    try rfl
                  refine hK.out _ _ ⟨v160, adz_v160, v166, adz_v166, gb175, m3_, m8_, m14_, (by rw [ha.out]; exact putSel_upk 11 hb_ rfl rfl rfl), Q_BK158, fun h0_ => absurd ((hon 2 (by kernel_rfl)).symm.trans h0_) (by decide), Q_HK, Q_HB, Q_HO161, Q_HA_HO161, fun _ h1_ => absurd ((hon 7 (by kernel_rfl)).symm.trans h1_) (by decide), Q_HO167, Q_HA_HO167, Q_HI0_e7, Q_BK175, Q_GW175, Q_GE175, Q_NB0_175, Q_NB175_0, Q_NB158_175, Q_NB175_158, Q_BK175_e15, Q_X3_, Q_X8_, Q_X14_⟩
                refine steps_cons ?_ ?_
                · rintro b a w' ⟨v160, adz_v160, v166, adz_v166, gb175, m3_, m8_, m14_, ha, Q_BK158, Q_HI0, Q_HK, Q_HB, Q_HO161, Q_HA_HO161, Q_HI0_e2, Q_HO167, Q_HA_HO167, Q_HI0_e7, Q_BK175, Q_GW175, Q_GE175, Q_NB0_175, Q_NB175_0, Q_NB158_175, Q_NB175_158, Q_BK175_e15, Q_X3_, Q_X8_, Q_X14_⟩ hb_ hon hoff
                  refine ⟨_, rfl, fun K hK => ?_⟩
                  replace ha := Aside0.mk ha
                  have BK158 := Aside0.mk Q_BK158
                  have HK := Aside0.mk Q_HK
                  have HB := Aside0.mk Q_HB
                  refine box_step ?hg (N := 3) ?hd (cs := #[.int .i64 0, .int .i64 0, .int .i64 0]) (t := 23) ?hr ?_; (case hd => rfl); (case hg => rfl); (case hr => first | (go_simp; done) | (go_simp; rfl))
                  intro gb175 hg w14 hbox hb
                  have n1_ := Aside0.mk (blk_below (g := gb158) (o := .cells #[.int .i64 0, .int .i64 0, .int .i64 0] 23 (0, 0)) (by (with_reducible repeat (first | refine blk_drewN ?_ _ | refine blk_drew ?_ | refine blk_alloc ?_ _)); exact BK158.out) hb)
                  have n2_ := Aside0.mk (KeepBut.trans (by repeat (first | (with_reducible first | exact HK.out | apply KeepBut.set_ | apply keep_drewN | apply keep_drew | apply keep_alloc | refine keep_far ?_ GW158.out _) | exact HK.out)) (KeepBut.of_below hb g none) (.inl rfl))
                  have n3_ := Aside0.mk (below_step (by repeat (first | (with_reducible first | exact HB.out | apply below_alloc | apply pw_below_drewN | apply below_drew1 | refine below_set ?_ GE158.out) | exact HB.out)) hb)
                  have n4_ := Aside0.mk (hbox)
                  have n5_ := Aside0.mk ((by rw [hg]; exact (keep_size (w := w) (g := g) (row := none) (by repeat (first | (with_reducible first | exact HK.out | apply KeepBut.set_ | apply keep_drewN | apply keep_drew | apply keep_alloc | refine keep_far ?_ GW158.out _) | exact HK.out))) : w.heap.size ≤ gb175))
                  have n6_ := Aside0.mk ((Nat.le_trans HW0.out (by rw [hg]; exact (keep_size (w := w) (g := g) (row := none) (by repeat (first | (with_reducible first | exact HK.out | apply KeepBut.set_ | apply keep_drewN | apply keep_drew | apply keep_alloc | refine keep_far ?_ GW158.out _) | exact HK.out))) : w.heap.size ≤ gb175) : w0.heap.size ≤ gb175))
                  have n7_ := Aside0.mk ((by rw [hg]; exact Nat.ne_of_lt (blk_lt (g := gb158) (o := .cells #[.int .i64 0, .int .i64 0, .int .i64 0] 23 (0, 0)) (by (with_reducible repeat (first | refine blk_drewN ?_ _ | refine blk_drew ?_ | refine blk_alloc ?_ _)); exact BK158.out)) : gb158 ≠ gb175))
                  have n8_ := Aside0.mk ((by rw [hg]; exact Nat.ne_of_gt (blk_lt (g := gb158) (o := .cells #[.int .i64 0, .int .i64 0, .int .i64 0] 23 (0, 0)) (by (with_reducible repeat (first | refine blk_drewN ?_ _ | refine blk_drew ?_ | refine blk_alloc ?_ _)); exact BK158.out)) : gb175 ≠ gb158))
                  have n9_ := Aside0.mk ((by rw [hg]; exact Nat.ne_of_lt (Nat.lt_of_lt_of_le HGT.out (show KeepBut w _ g none from by repeat (first | (with_reducible first | exact HK.out | apply KeepBut.set_ | apply keep_drewN | apply keep_drew | apply keep_alloc | refine keep_far ?_ GW158.out _) | exact HK.out)).1) : g ≠ gb175))
                  have n10_ := Aside0.mk ((by rw [hg]; exact Nat.ne_of_gt (Nat.lt_of_lt_of_le HGT.out (show KeepBut w _ g none from by repeat (first | (with_reducible first | exact HK.out | apply KeepBut.set_ | apply keep_drewN | apply keep_drew | apply keep_alloc | refine keep_far ?_ GW158.out _) | exact HK.out)).1) : gb175 ≠ g))
                  have z_HI0 := fun (h0_ : b 2 = false) => (show IsS56 w0 w14 g s0_0 from by first | exact (IsS56.below (by repeat (first | (with_reducible first | exact (Q_HI0 h0_) | apply IsS56.alloc | apply IsS56.drewN | apply IsS56.drew | apply IsS56.set_0 | refine IsS56.far ?_ NB0_158.out _) | exact (Q_HI0 h0_))) hb))
                  have z_HO161 := fun (h0_ : b 0 = true) => (show Kd.R (Kd.int .i64) 3 w14 w.heap.size (fun _ => True) v160 y159 from by first | exact (Kd.R_below (by (with_reducible repeat (first | apply Kd.R_alloc | apply Kd.R_drewN | apply Kd.R_drew)); exact (Q_HO161 h0_)) hb) | exact Kd.R_mono (Kd.R_below (by (with_reducible repeat (first | apply Kd.R_alloc | apply Kd.R_drewN | apply Kd.R_drew)); exact (Q_HO161 h0_)) hb) (fun _ h_ => by first | trivial | exact h_ | exact h_.1))
                  have z_HI0_e2 := fun (h0_ : b 2 = true) (h1_ : b 7 = false) => (show IsS56 w0 w14 g t163 from by first | exact (IsS56.below (by repeat (first | (with_reducible first | exact (Q_HI0_e2 h0_ h1_) | apply IsS56.alloc | apply IsS56.drewN | apply IsS56.drew | apply IsS56.set_0 | refine IsS56.far ?_ NB0_158.out _) | exact (Q_HI0_e2 h0_ h1_))) hb))
                  have z_HO167 := fun (h0_ : b 5 = true) => (show Kd.R (Kd.int .i64) 3 w14 w.heap.size (fun _ => True) v166 y165 from by first | exact (Kd.R_below (by (with_reducible repeat (first | apply Kd.R_alloc | apply Kd.R_drewN | apply Kd.R_drew)); exact (Q_HO167 h0_)) hb) | exact Kd.R_mono (Kd.R_below (by (with_reducible repeat (first | apply Kd.R_alloc | apply Kd.R_drewN | apply Kd.R_drew)); exact (Q_HO167 h0_)) hb) (fun _ h_ => by first | trivial | exact h_ | exact h_.1))
                  have z_HI0_e7 := fun (h0_ : b 7 = true) => (show IsS56 w0 w14 g t169 from by first | exact (IsS56.below (by repeat (first | (with_reducible first | exact (Q_HI0_e7 h0_) | apply IsS56.alloc | apply IsS56.drewN | apply IsS56.drew | apply IsS56.set_0 | refine IsS56.far ?_ NB0_158.out _) | exact (Q_HI0_e7 h0_))) hb))
                  clear BK158
                  clear HK
                  clear HB
                  have BK158 := n1_
                  have HK := n2_
                  have HB := n3_
                  have BK175 := n4_
                  have GW175 := n5_
                  have GE175 := n6_
                  have NB158_175 := n7_
                  have NB175_158 := n8_
                  have NB0_175 := n9_
                  have NB175_0 := n10_
                  clear n1_ n2_ n3_ n4_ n5_ n6_ n7_ n8_ n9_ n10_
                  clear hb hbox hg
                  refine hK.out _ _ ⟨v160, adz_v160, v166, adz_v166, gb175, m3_, m8_, (.pointer (some ⟨gb175, 0, none⟩)), (by rw [ha.out]; exact putSel_upk 12 hb_ rfl rfl rfl), (by (with_reducible repeat (first | refine blk_drewN ?_ _ | refine blk_drew ?_ | refine blk_alloc ?_ _)); exact BK158.out), z_HI0, (by repeat (first | (with_reducible first | exact HK.out | apply KeepBut.set_ | apply keep_drewN | apply keep_drew | apply keep_alloc | refine keep_far ?_ GW158.out _ | refine keep_far ?_ GW175.out _) | exact HK.out)), (by repeat (first | (with_reducible first | exact HB.out | apply below_alloc | apply pw_below_drewN | apply below_drew1 | refine below_set ?_ GE158.out | refine below_set ?_ GE175.out) | exact HB.out)), z_HO161, Q_HA_HO161, z_HI0_e2, z_HO167, Q_HA_HO167, z_HI0_e7, fun _ _ => (by (with_reducible repeat (first | refine blk_drewN ?_ _ | refine blk_drew ?_ | refine blk_alloc ?_ _)); exact BK175.out), fun _ => GW175.out, fun _ => GE175.out, fun _ => NB0_175.out, fun _ => NB175_0.out, fun _ => NB158_175.out, fun _ => NB175_158.out, fun h0_ => absurd ((hoff 15 (by kernel_rfl)).symm.trans h0_) (by decide), Q_X3_, Q_X8_, fun _ => rfl⟩
                refine steps_cons ?_ ?_
                · rintro b a w' ⟨v160, adz_v160, v166, adz_v166, gb175, m3_, m8_, m14_, ha, Q_BK158, Q_HI0, Q_HK, Q_HB, Q_HO161, Q_HA_HO161, Q_HI0_e2, Q_HO167, Q_HA_HO167, Q_HI0_e7, Q_BK175, Q_GW175, Q_GE175, Q_NB0_175, Q_NB175_0, Q_NB158_175, Q_NB175_158, Q_BK175_e15, Q_X3_, Q_X8_, Q_X14_⟩ hb_ hon hoff
                  refine ⟨_, rfl, fun K hK => ?_⟩
                  have e3 : a.tmps[3]? = some (m14_) := by rw [ha]; exact putSel_on (e := (14, 3, m14_)) 12 rfl rfl (hon 14 (by kernel_rfl)) rfl
                  rw [Q_X14_ (hon 14 (by kernel_rfl))] at e3
                  have e17 : a.tmps[17]? = some (.agg #[.int .i64 t171, .int .i64 t172, .int .i64 t173]) := by rw [ha]; exact putSel_on (e := (12, 17, .agg #[.int .i64 t171, .int .i64 t172, .int .i64 t173])) 10 rfl rfl (hon 12 (by kernel_rfl)) rfl
                  replace ha := Aside0.mk ha
                  have BK158 := Aside0.mk Q_BK158
                  have HK := Aside0.mk Q_HK
                  have HB := Aside0.mk Q_HB
                  have HO161 := Aside0.mk (Q_HO161 (hon 0 (by kernel_rfl)))
                  have HA_HO161 := Aside0.mk (Q_HA_HO161 (hon 0 (by kernel_rfl)))
                  have HO167 := Aside0.mk (Q_HO167 (hon 5 (by kernel_rfl)))
                  have HA_HO167 := Aside0.mk (Q_HA_HO167 (hon 5 (by kernel_rfl)))
                  have HI0 := Aside0.mk (Q_HI0_e7 (hon 7 (by kernel_rfl)))
                  have BK175 := Aside0.mk (Q_BK175 (hon 14 (by kernel_rfl)) hb_)
                  have GW175 := Aside0.mk (Q_GW175 (hon 14 (by kernel_rfl)))
                  have GE175 := Aside0.mk (Q_GE175 (hon 14 (by kernel_rfl)))
                  have NB0_175 := Aside0.mk (Q_NB0_175 (hon 14 (by kernel_rfl)))
                  have NB175_0 := Aside0.mk (Q_NB175_0 (hon 14 (by kernel_rfl)))
                  have NB158_175 := Aside0.mk (Q_NB158_175 (hon 14 (by kernel_rfl)))
                  have NB175_158 := Aside0.mk (Q_NB175_158 (hon 14 (by kernel_rfl)))
                  obtain ⟨co25, eo25⟩ := HA_HO161.out
                  clear HA_HO161
                  subst eo25
                  obtain ⟨co26, eo26⟩ := HA_HO167.out
                  clear HA_HO167
                  subst eo26
                  have hs27 : w'.cell? ⟨gb175, 0, none⟩ = some (.int .i64 0) := (blk_cell BK175.out 0).trans rfl
                  have hfs27 := blk_frozen BK175.out 0
                  have hns27_0 := NB158_175.out
                  have hms27_0 := NB175_158.out
                  have hs28 : w'.cell? ⟨gb175, 1, none⟩ = some (.int .i64 0) := (blk_cell BK175.out 1).trans rfl
                  have hfs28 := blk_frozen BK175.out 1
                  have hns28_0 := NB158_175.out
                  have hms28_0 := NB175_158.out
                  have hs29 : w'.cell? ⟨gb175, 2, none⟩ = some (.int .i64 0) := (blk_cell BK175.out 2).trans rfl
                  have hfs29 := blk_frozen BK175.out 2
                  have hns29_0 := NB158_175.out
                  have hms29_0 := NB175_158.out
                  refine skip_ (w1 := ?_) (by rfl) rfl ?_ ?_
                  rotate_left
                  · go_simp
                    rfl
                  refine hK.out _ _ ⟨.slice (some adz_v160) y159.length co25, adz_v160, .slice (some adz_v166) y165.length co26, adz_v166, gb175, m3_, m8_, m14_, (by rw [ha.out]; exact putSel_none (v := undef) rfl), (by (with_reducible repeat (first | refine blk_drewN ?_ _ | refine blk_drew ?_ | refine blk_alloc ?_ _)); refine blk_far ?_ NB158_175.out _; (with_reducible repeat (first | refine blk_drewN ?_ _ | refine blk_drew ?_ | refine blk_alloc ?_ _)); refine blk_far ?_ NB158_175.out _; (with_reducible repeat (first | refine blk_drewN ?_ _ | refine blk_drew ?_ | refine blk_alloc ?_ _)); refine blk_far ?_ NB158_175.out _; (with_reducible repeat (first | refine blk_drewN ?_ _ | refine blk_drew ?_ | refine blk_alloc ?_ _)); exact BK158.out), fun h0_ => absurd ((hon 2 (by kernel_rfl)).symm.trans h0_) (by decide), (by repeat (first | (with_reducible first | exact HK.out | apply KeepBut.set_ | apply keep_drewN | apply keep_drew | apply keep_alloc | refine keep_far ?_ GW158.out _ | refine keep_far ?_ GW175.out _) | exact HK.out)), (by repeat (first | (with_reducible first | exact HB.out | apply below_alloc | apply pw_below_drewN | apply below_drew1 | refine below_set ?_ (IsS56.ge HI0.out) | refine below_set ?_ GE158.out | refine below_set ?_ GE175.out) | exact HB.out)), fun _ => (by (with_reducible repeat (first | apply Kd.R_alloc | apply Kd.R_drewN | apply Kd.R_drew)); exact Kd.R_mono (Kd.R_far (p := ⟨gb175, 2, none⟩) (Kd.R_far (p := ⟨gb175, 1, none⟩) (Kd.R_far (p := ⟨gb175, 0, none⟩) (Kd.R_types HO161.out BK175.out (by decide)) (fun _ hk => hk.2) (.int .i64 t171)) (fun _ hk => hk.2) (.int .i64 t172)) (fun _ hk => hk.2) (.int .i64 t173)) (fun _ hk => hk.1)), fun _ => ⟨_, rfl⟩, fun _ h1_ => absurd ((hon 7 (by kernel_rfl)).symm.trans h1_) (by decide), fun _ => (by (with_reducible repeat (first | apply Kd.R_alloc | apply Kd.R_drewN | apply Kd.R_drew)); exact Kd.R_mono (Kd.R_far (p := ⟨gb175, 2, none⟩) (Kd.R_far (p := ⟨gb175, 1, none⟩) (Kd.R_far (p := ⟨gb175, 0, none⟩) (Kd.R_types HO167.out BK175.out (by decide)) (fun _ hk => hk.2) (.int .i64 t171)) (fun _ hk => hk.2) (.int .i64 t172)) (fun _ hk => hk.2) (.int .i64 t173)) (fun _ hk => hk.1)), fun _ => ⟨_, rfl⟩, fun _ => (by repeat (first | (with_reducible first | exact HI0.out | apply IsS56.alloc | apply IsS56.drewN | apply IsS56.drew | apply IsS56.set_0 | refine IsS56.far ?_ NB0_158.out _ | refine IsS56.far ?_ NB0_175.out _) | exact HI0.out)), fun _ h1_ => absurd ((up_self b 15).symm.trans h1_) (by decide), fun _ => GW175.out, fun _ => GE175.out, fun _ => NB0_175.out, fun _ => NB175_0.out, fun _ => NB158_175.out, fun _ => NB175_158.out, fun _ => (by (with_reducible repeat (first | refine blk_drewN ?_ _ | refine blk_drew ?_ | refine blk_alloc ?_ _)); refine blk_put (cs := #[.int .i64 t171, .int .i64 t172, .int .i64 0]) ?_ 2 _ rfl; (with_reducible repeat (first | refine blk_drewN ?_ _ | refine blk_drew ?_ | refine blk_alloc ?_ _)); refine blk_put (cs := #[.int .i64 t171, .int .i64 0, .int .i64 0]) ?_ 1 _ rfl; (with_reducible repeat (first | refine blk_drewN ?_ _ | refine blk_drew ?_ | refine blk_alloc ?_ _)); refine blk_put (cs := #[.int .i64 0, .int .i64 0, .int .i64 0]) ?_ 0 _ rfl; (with_reducible repeat (first | refine blk_drewN ?_ _ | refine blk_drew ?_ | refine blk_alloc ?_ _)); exact BK175.out), Q_X3_, Q_X8_, Q_X14_⟩
                refine steps_cons ?_ ?_
                · rintro b a w' ⟨v160, adz_v160, v166, adz_v166, gb175, m3_, m8_, m14_, ha, Q_BK158, Q_HI0, Q_HK, Q_HB, Q_HO161, Q_HA_HO161, Q_HI0_e2, Q_HO167, Q_HA_HO167, Q_HI0_e7, Q_BK175, Q_GW175, Q_GE175, Q_NB0_175, Q_NB175_0, Q_NB158_175, Q_NB175_158, Q_BK175_e15, Q_X3_, Q_X8_, Q_X14_⟩ hb_ hon hoff
                  refine ⟨_, rfl, fun K hK => ?_⟩
                  have e18 : a.tmps[18]? = some (.int .i64 t174) := by rw [ha]; exact putSel_on (e := (13, 18, .int .i64 t174)) 11 rfl rfl (hon 13 (by kernel_rfl)) rfl
                  replace ha := Aside0.mk ha
                  have BK158 := Aside0.mk Q_BK158
                  have HK := Aside0.mk Q_HK
                  have HB := Aside0.mk Q_HB
                  have HO161 := Aside0.mk (Q_HO161 (hon 0 (by kernel_rfl)))
                  have HA_HO161 := Aside0.mk (Q_HA_HO161 (hon 0 (by kernel_rfl)))
                  have HO167 := Aside0.mk (Q_HO167 (hon 5 (by kernel_rfl)))
                  have HA_HO167 := Aside0.mk (Q_HA_HO167 (hon 5 (by kernel_rfl)))
                  have HI0 := Aside0.mk (Q_HI0_e7 (hon 7 (by kernel_rfl)))
                  have GW175 := Aside0.mk (Q_GW175 (hon 14 (by kernel_rfl)))
                  have GE175 := Aside0.mk (Q_GE175 (hon 14 (by kernel_rfl)))
                  have NB0_175 := Aside0.mk (Q_NB0_175 (hon 14 (by kernel_rfl)))
                  have NB175_0 := Aside0.mk (Q_NB175_0 (hon 14 (by kernel_rfl)))
                  have NB158_175 := Aside0.mk (Q_NB158_175 (hon 14 (by kernel_rfl)))
                  have NB175_158 := Aside0.mk (Q_NB175_158 (hon 14 (by kernel_rfl)))
                  have BK175 := Aside0.mk (Q_BK175_e15 (hon 15 (by kernel_rfl)))
                  refine value_ (w1 := w') (v := .int .i64 t174) (by rfl) rfl ?_ ?_
                  · go_simp
                    (try simp only [i64_w])
                    try rfl
                  refine hK.out _ _ ⟨v160, adz_v160, v166, adz_v166, gb175, m3_, m8_, m14_, (by rw [ha.out]; exact putSel_upk 13 hb_ rfl rfl rfl), Q_BK158, fun h0_ => absurd ((hon 2 (by kernel_rfl)).symm.trans h0_) (by decide), Q_HK, Q_HB, Q_HO161, Q_HA_HO161, fun _ h1_ => absurd ((hon 7 (by kernel_rfl)).symm.trans h1_) (by decide), Q_HO167, Q_HA_HO167, Q_HI0_e7, fun _ h1_ => absurd ((hon 15 (by kernel_rfl)).symm.trans h1_) (by decide), Q_GW175, Q_GE175, Q_NB0_175, Q_NB175_0, Q_NB158_175, Q_NB175_158, Q_BK175_e15, Q_X3_, Q_X8_, Q_X14_⟩
                exact steps_nil
              rintro b a w27 hall ⟨v160, adz_v160, v166, adz_v166, gb175, m3_, m8_, m14_, ha, Q_BK158, Q_HI0, Q_HK, Q_HB, Q_HO161, Q_HA_HO161, Q_HI0_e2, Q_HO167, Q_HA_HO167, Q_HI0_e7, Q_BK175, Q_GW175, Q_GE175, Q_NB0_175, Q_NB175_0, Q_NB158_175, Q_NB175_158, Q_BK175_e15, Q_X3_, Q_X8_, Q_X14_⟩
              clear BK158 HB HI0 HK
              have hb0_ := hall 0 (by kernel_rfl)
              have hb2_ := hall 2 (by kernel_rfl)
              have hb3_ := hall 3 (by kernel_rfl)
              have hb4_ := hall 4 (by kernel_rfl)
              have hb5_ := hall 5 (by kernel_rfl)
              have hb7_ := hall 7 (by kernel_rfl)
              have hb8_ := hall 8 (by kernel_rfl)
              have hb9_ := hall 9 (by kernel_rfl)
              have hb10_ := hall 10 (by kernel_rfl)
              have hb11_ := hall 11 (by kernel_rfl)
              have hb12_ := hall 12 (by kernel_rfl)
              have hb13_ := hall 13 (by kernel_rfl)
              have hb14_ := hall 14 (by kernel_rfl)
              have hb15_ := hall 15 (by kernel_rfl)
              have hb16_ := hall 16 (by kernel_rfl)
              subst ha
              obtain rfl := Q_X3_ hb3_
              obtain rfl := Q_X8_ hb8_
              obtain rfl := Q_X14_ hb14_
              simp only [putSel, hb0_, hb2_, hb3_, hb4_, hb5_, hb7_, hb8_, hb9_, hb10_, hb11_, hb12_, hb13_, hb14_, hb15_, hb16_, if_true, Act.put, List.setIfInBounds_toArray, List.set_cons_zero, List.set_cons_succ]
              have BK158 := Aside0.mk Q_BK158
              clear Q_BK158
              clear Q_HI0
              have HK := Aside0.mk Q_HK
              clear Q_HK
              have HB := Aside0.mk Q_HB
              clear Q_HB
              have HO161 := Aside0.mk (Q_HO161 hb0_)
              clear Q_HO161
              have HA_HO161 := Aside0.mk (Q_HA_HO161 hb0_)
              clear Q_HA_HO161
              clear Q_HI0_e2
              have HO167 := Aside0.mk (Q_HO167 hb5_)
              clear Q_HO167
              have HA_HO167 := Aside0.mk (Q_HA_HO167 hb5_)
              clear Q_HA_HO167
              have HI0 := Aside0.mk (Q_HI0_e7 hb7_)
              clear Q_HI0_e7
              clear Q_BK175
              have GW175 := Aside0.mk (Q_GW175 hb14_)
              clear Q_GW175
              have GE175 := Aside0.mk (Q_GE175 hb14_)
              clear Q_GE175
              have NB0_175 := Aside0.mk (Q_NB0_175 hb14_)
              clear Q_NB0_175
              have NB175_0 := Aside0.mk (Q_NB175_0 hb14_)
              clear Q_NB175_0
              have NB158_175 := Aside0.mk (Q_NB158_175 hb14_)
              clear Q_NB158_175
              have NB175_158 := Aside0.mk (Q_NB175_158 hb14_)
              clear Q_NB175_158
              have BK175 := Aside0.mk (Q_BK175_e15 hb15_)
              clear Q_BK175_e15
              clear hall hb0_ hb2_ hb3_ hb4_ hb5_ hb7_ hb8_ hb9_ hb10_ hb11_ hb12_ hb13_ hb14_ hb15_ hb16_
              obtain ⟨co28, eo28⟩ := HA_HO161.out
              clear HA_HO161
              subst eo28
              obtain ⟨co29, eo29⟩ := HA_HO167.out
              clear HA_HO167
              subst eo29
              try go_wp2_with (first | ((with_reducible refine gate_dst (N := 19) rfl ?_); refine Kd.R_lit (Kd.int .i64) _ 3 ?hg (N := 19) ?hd (xs := ([65536, 0, 1, 30000] : List Int)) (inner := [.int .i64 65536, .int .i64 0, .int .i64 1, .int .i64 30000]) (ok := fun _ => True) (okp := fun _ => True) ?hr ?hp (fun _ hk => hk) trivial (Below.refl _ _) (Nat.le_refl _) (by simp) ?_; (case hd => rfl); (case hg => rfl); (case hr => first | (go_simp; done) | (go_simp; rfl)); (case hp => exact (Reps.one (show Kd.M (Kd.int .i64) _ _ _ 65536 [.int .i64 65536] from rfl) (Reps.one (show Kd.M (Kd.int .i64) _ _ _ 0 [.int .i64 0] from rfl) (Reps.one (show Kd.M (Kd.int .i64) _ _ _ 1 [.int .i64 1] from rfl) (Reps.one (show Kd.M (Kd.int .i64) _ _ _ 30000 [.int .i64 30000] from rfl) (Reps.none _ _)))))); intro v177 w30 ho31 hb hg_ hnew_; clear hg_ hnew_; (first | rw [← Ny176.out] at ho31 | (simp only [Int.reduceToNat] at ho31; rw [← Ny176.out] at ho31)); have n0_ := Aside0.mk (Kd.R_elder' (by (with_reducible repeat (first | apply Kd.R_alloc | apply Kd.R_drewN | apply Kd.R_drew)); exact HO161.out) (Kd.R_base ho31) hb); have n1_ := Aside0.mk (Kd.R_elder' (by (with_reducible repeat (first | apply Kd.R_alloc | apply Kd.R_drewN | apply Kd.R_drew)); exact HO167.out) (Kd.R_base ho31) hb); have n2_ := Aside0.mk (Kd.R_lower (Kd.R_new' (Kd.R_new' ho31 (Kd.R_lt (by (with_reducible repeat (first | apply Kd.R_alloc | apply Kd.R_drewN | apply Kd.R_drew)); exact HO161.out))) (Kd.R_lt (by (with_reducible repeat (first | apply Kd.R_alloc | apply Kd.R_drewN | apply Kd.R_drew)); exact HO167.out))) (keep_size (w := w) (g := g) (row := none) (by repeat (first | (with_reducible first | exact HK.out | apply KeepBut.set_ | apply keep_drewN | apply keep_drew | apply keep_alloc | refine keep_far ?_ GW158.out _ | refine keep_far ?_ GW175.out _) | exact HK.out)))); have n3_ := Aside0.mk (IsS56.below (by repeat (first | (with_reducible first | exact HI0.out | apply IsS56.alloc | apply IsS56.drewN | apply IsS56.drew | apply IsS56.set_0 | refine IsS56.far ?_ NB0_158.out _ | refine IsS56.far ?_ NB0_175.out _) | exact HI0.out)) hb); have n4_ := Aside0.mk (blk_below (g := gb158) (o := .cells #[.int .i64 0, .int .i64 0, .int .i64 0] 23 (0, 0)) (by (with_reducible repeat (first | refine blk_drewN ?_ _ | refine blk_drew ?_ | refine blk_alloc ?_ _)); exact BK158.out) hb); have n5_ := Aside0.mk (blk_below (g := gb175) (o := .cells #[.int .i64 t171, .int .i64 t172, .int .i64 t173] 23 (0, 0)) (by (with_reducible repeat (first | refine blk_drewN ?_ _ | refine blk_drew ?_ | refine blk_alloc ?_ _)); exact BK175.out) hb); have n6_ := Aside0.mk (KeepBut.trans (by repeat (first | (with_reducible first | exact HK.out | apply KeepBut.set_ | apply keep_drewN | apply keep_drew | apply keep_alloc | refine keep_far ?_ GW158.out _ | refine keep_far ?_ GW175.out _) | exact HK.out)) (KeepBut.of_below hb g none) (.inl rfl)); have n7_ := Aside0.mk (below_step (by repeat (first | (with_reducible first | exact HB.out | apply below_alloc | apply pw_below_drewN | apply below_drew1 | refine below_set ?_ (IsS56.ge HI0.out) | refine below_set ?_ GE158.out | refine below_set ?_ GE175.out) | exact HB.out)) hb); clear HO161; clear HO167; clear HI0; clear BK158; clear BK175; clear HK; clear HB; have HO161 := n0_; have HO167 := n1_; have HO178 := n2_; have HI0 := n3_; have BK158 := n4_; have BK175 := n5_; have HK := n6_; have HB := n7_; clear n0_ n1_ n2_ n3_ n4_ n5_ n6_ n7_; clear hb ho31) | ((with_reducible refine gate_callee (f := 21) rfl ?_); refine goesL_ (some 21) rfl rfl Try.func21 (by kernel_rfl) rfl #[.pointer (some ⟨g, 0, none⟩), .int .i64 4] rfl (by (try simp only [List.map_toArray, List.map_cons, List.map_nil]); first | done | rfl | (simp only [List.length_drop, List.length_take]; rfl)) ?_; (with_reducible refine (soundservicemade_Dice_Next.calls g t169 4 t179 t180 w0 _ ?side1 ?side2 A9.out).mono ?_); (case side1 => repeat (first | (with_reducible first | exact HI0.out | apply IsS56.alloc | apply IsS56.drewN | apply IsS56.drew | apply IsS56.set_0 | refine IsS56.far ?_ NB0_158.out _ | refine IsS56.far ?_ NB0_175.out _) | exact HI0.out)); (case side2 => repeat (first | (with_reducible first | exact HB.out | apply below_alloc | apply pw_below_drewN | apply below_drew1 | refine below_set ?_ (IsS56.ge HI0.out) | refine below_set ?_ GE158.out | refine below_set ?_ GE175.out) | exact HB.out)); rintro e w32 ⟨rfl, hi, hb, hk⟩; refine ⟨_, rfl, ?_⟩; have n0_ := Aside0.mk (KeepBut.blk hk (g' := gb158) (o := .cells #[.int .i64 0, .int .i64 0, .int .i64 0] 23 (0, 0)) (by (with_reducible repeat (first | refine blk_drewN ?_ _ | refine blk_drew ?_ | refine blk_alloc ?_ _)); exact BK158.out) NB158_0.out (by simp)); have n1_ := Aside0.mk (Kd.R_mono (Kd.R_keep (IsS56.apart (show IsS56 w0 _ g t169 from by repeat (first | (with_reducible first | exact HI0.out | apply IsS56.alloc | apply IsS56.drewN | apply IsS56.drew | apply IsS56.set_0 | refine IsS56.far ?_ NB0_158.out _ | refine IsS56.far ?_ NB0_175.out _) | exact HI0.out)) (by (with_reducible repeat (first | apply Kd.R_alloc | apply Kd.R_drewN | apply Kd.R_drew)); exact HO161.out) (by decide)) hk (fun _ h => h.2)) (fun _ h => h.1)); have n2_ := Aside0.mk (Kd.R_mono (Kd.R_keep (IsS56.apart (show IsS56 w0 _ g t169 from by repeat (first | (with_reducible first | exact HI0.out | apply IsS56.alloc | apply IsS56.drewN | apply IsS56.drew | apply IsS56.set_0 | refine IsS56.far ?_ NB0_158.out _ | refine IsS56.far ?_ NB0_175.out _) | exact HI0.out)) (by (with_reducible repeat (first | apply Kd.R_alloc | apply Kd.R_drewN | apply Kd.R_drew)); exact HO167.out) (by decide)) hk (fun _ h => h.2)) (fun _ h => h.1)); have n3_ := Aside0.mk (KeepBut.blk hk (g' := gb175) (o := .cells #[.int .i64 t171, .int .i64 t172, .int .i64 t173] 23 (0, 0)) (by (with_reducible repeat (first | refine blk_drewN ?_ _ | refine blk_drew ?_ | refine blk_alloc ?_ _)); exact BK175.out) NB175_0.out (by simp)); have n4_ := Aside0.mk (Kd.R_mono (Kd.R_keep (IsS56.apart (show IsS56 w0 _ g t169 from by repeat (first | (with_reducible first | exact HI0.out | apply IsS56.alloc | apply IsS56.drewN | apply IsS56.drew | apply IsS56.set_0 | refine IsS56.far ?_ NB0_158.out _ | refine IsS56.far ?_ NB0_175.out _) | exact HI0.out)) (by (with_reducible repeat (first | apply Kd.R_alloc | apply Kd.R_drewN | apply Kd.R_drew)); exact HO178.out) (by decide)) hk (fun _ h => h.2)) (fun _ h => h.1)); have n5_ := Aside0.mk (KeepBut.trans (by repeat (first | (with_reducible first | exact HK.out | apply KeepBut.set_ | apply keep_drewN | apply keep_drew | apply keep_alloc | refine keep_far ?_ GW158.out _ | refine keep_far ?_ GW175.out _) | exact HK.out)) hk (.inl rfl)); have n6_ := Aside0.mk (hb); have n7_ := Aside0.mk (hi); clear BK158; clear HO161; clear HO167; clear BK175; clear HO178; clear HK; clear HB; clear HI0; have BK158 := n0_; have HO161 := n1_; have HO167 := n2_; have BK175 := n3_; have HO178 := n4_; have HK := n5_; have HB := n6_; have HI0 := n7_; clear n0_ n1_ n2_ n3_ n4_ n5_ n6_ n7_; (try clear hb); (try clear hb2); (try clear hk); (try clear hi); (try clear hgw); obtain ⟨Ao33, co33, eo33⟩ := Kd.R_slice HO178.out; subst eo33; have p181 : 0 ≤ (t179 : Int) := of_decide_eq_true (by first | (with_reducible assumption) | assumption); have q181 : t179 < (y176.length : Int) := of_decide_eq_true (by first | (with_reducible assumption) | assumption); obtain ⟨ad181, e181, hx181_0⟩ := Kd.at_int (Kd.R_reads' HO178.out).2.2 t179 p181 q181; cases e181; replace p181 := eq_true p181; replace q181 := eq_true q181; have hnb34 := NB175_158.out; have hnc34 := NB158_175.out; have hnb35 := NB175_0.out; have hnc35 := NB0_175.out; have hcz36_0 : w32.cell? ⟨gb175, 0, none⟩ = some (.int .i64 t171) := (blk_cell BK175.out 0).trans rfl; have hcz36_1 : w32.cell? ⟨gb175, 1, none⟩ = some (.int .i64 t172) := (blk_cell BK175.out 1).trans rfl; have hcz36_2 : w32.cell? ⟨gb175, 2, none⟩ = some (.int .i64 t173) := (blk_cell BK175.out 2).trans rfl; have hfz36_0 := blk_frozen BK175.out 0; have hfz36_1 := blk_frozen BK175.out 1; have hfz36_2 := blk_frozen BK175.out 2; have hnb37 := NB158_0.out; have hnc37 := NB0_158.out; have hcz38_0 : w32.cell? ⟨gb158, 0, none⟩ = some (.int .i64 0) := (blk_cell BK158.out 0).trans rfl; have hcz38_1 : w32.cell? ⟨gb158, 1, none⟩ = some (.int .i64 0) := (blk_cell BK158.out 1).trans rfl; have hcz38_2 : w32.cell? ⟨gb158, 2, none⟩ = some (.int .i64 0) := (blk_cell BK158.out 2).trans rfl; have hfz38_0 := blk_frozen BK158.out 0; have hfz38_1 := blk_frozen BK158.out 1; have hfz38_2 := blk_frozen BK158.out 2))
              refine bodyPost_ret (results_cell_row rfl _ _ gb158 23 #[.int .i64 t171, .int .i64 t172, .int .i64 (rd y176 t179)] (0, 0) _ rfl (by (with_reducible repeat (first | refine blk_drewN ?_ _ | refine blk_drew ?_ | refine blk_alloc ?_ _)); refine blk_put (cs := #[.int .i64 t171, .int .i64 t172, .int .i64 0]) ?_ 2 _ rfl; (with_reducible repeat (first | refine blk_drewN ?_ _ | refine blk_drew ?_ | refine blk_alloc ?_ _)); refine blk_put (cs := #[.int .i64 t171, .int .i64 0, .int .i64 0]) ?_ 1 _ rfl; (with_reducible repeat (first | refine blk_drewN ?_ _ | refine blk_drew ?_ | refine blk_alloc ?_ _)); refine blk_put (cs := #[.int .i64 0, .int .i64 0, .int .i64 0]) ?_ 0 _ rfl; (with_reducible repeat (first | refine blk_drewN ?_ _ | refine blk_drew ?_ | refine blk_alloc ?_ _)); refine blk_far ?_ NB158_175.out _; (with_reducible repeat (first | refine blk_drewN ?_ _ | refine blk_drew ?_ | refine blk_alloc ?_ _)); exact BK158.out) Try.underlying23 rfl (by kernel_rfl)) rfl ?_
              exact ⟨by first | rfl | (simp [errW_none, errW_some] <;> rfl) | (simp [*, errW_none, errW_some] <;> rfl), by repeat (first | (with_reducible first | exact HI0.out | apply IsS56.alloc | apply IsS56.drewN | apply IsS56.drew | apply IsS56.set_0 | refine IsS56.far ?_ NB0_158.out _ | refine IsS56.far ?_ NB0_175.out _) | exact HI0.out), by repeat (first | (with_reducible first | exact HB.out | apply below_alloc | apply pw_below_drewN | apply below_drew1 | refine below_set ?_ (IsS56.ge HI0.out) | refine below_set ?_ GE158.out | refine below_set ?_ GE175.out) | exact HB.out), by repeat (first | (with_reducible first | exact HK.out | apply KeepBut.set_ | apply keep_drewN | apply keep_drew | apply keep_alloc | refine keep_far ?_ GW158.out _ | refine keep_far ?_ GW175.out _) | exact HK.out)⟩
            · rw [if_neg c11] at H
              exact absurd H (by simp)
          · rw [if_neg c10] at H
            exact absurd H (by simp)
        · rw [if_neg c7] at H
          exact absurd H (by simp)
      · rw [if_neg c6] at H
        exact absurd H (by simp)
    · rw [if_neg c4] at H
      exact absurd H (by simp)
  · rw [if_neg c3] at H
    exact absurd H (by simp)

/-! ### soundservicemade_Dice_Sample: function 23 -/
def soundservicemade_Dice_Sample.f (s0_0 : List Int) : Option (Int × List Int) := (soundservicemade_Dice_Next.f s0_0 8).bind fun bt182 => (if bt182.1 = 0 then (some (0, bt182.2)) else (if bt182.1 = 1 then (some (8388607, bt182.2)) else (if bt182.1 = 2 then (some ((-8388608), bt182.2)) else (if bt182.1 = 3 then ((soundservicemade_Dice_Next.f bt182.2 256).bind fun bt184 => (some (wrap32 ((wrap32 (bt184.1)) - 128), bt184.2))) else ((soundservicemade_Dice_Next.f bt182.2 256).bind fun bt186 => ((soundservicemade_Dice_Next.f bt186.2 256).bind fun bt188 => ((soundservicemade_Dice_Next.f bt188.2 256).bind fun bt190 => (some (wrap32 ((wrap32 ((wrap32 ((wrap32 ((wrap32 (bt186.1)) * 65536)) - 8388608)) + (wrap32 ((wrap32 (bt188.1)) * 256)))) + (wrap32 (bt190.1))), bt190.2)))))))))
set_option maxHeartbeats 8000000 in
set_option maxRecDepth 100000 in
theorem soundservicemade_Dice_Sample.calls (g : Nat) (s0_0 : List Int) (r1 : Int) (r2 : List Int) (w0 w : World) (hI : IsS56 w0 w g s0_0) (hB : Below w0.heap.size w0 w) (h : soundservicemade_Dice_Sample.f s0_0 = some (r1, r2)) :
    Calls Try.prog 23 #[.pointer (some ⟨g, 0, none⟩)] w fun e w' => e = .returned (.int .i32 r1) ∧ IsS56 w0 w' g r2 ∧ Below w0.heap.size w0 w' ∧ KeepBut w w' g none := by
  have HGT := Aside0.mk (IsS56.lt hI)
  have HI0 := Aside0.mk hI
  have HK := Aside0.mk (KeepBut.refl w g none)
  have HL := Aside0.mk hB.size
  clear hI
  have HW0 := Aside0.mk hB.size
  have HB := Aside0.mk hB
  clear hB
  have H : ((soundservicemade_Dice_Next.f s0_0 8).bind fun bt182 => (if bt182.1 = 0 then (some (0, bt182.2)) else (if bt182.1 = 1 then (some (8388607, bt182.2)) else (if bt182.1 = 2 then (some ((-8388608), bt182.2)) else (if bt182.1 = 3 then ((soundservicemade_Dice_Next.f bt182.2 256).bind fun bt184 => (some (wrap32 ((wrap32 (bt184.1)) - 128), bt184.2))) else ((soundservicemade_Dice_Next.f bt182.2 256).bind fun bt186 => ((soundservicemade_Dice_Next.f bt186.2 256).bind fun bt188 => ((soundservicemade_Dice_Next.f bt188.2 256).bind fun bt190 => (some (wrap32 ((wrap32 ((wrap32 ((wrap32 ((wrap32 (bt186.1)) * 65536)) - 8388608)) + (wrap32 ((wrap32 (bt188.1)) * 256)))) + (wrap32 (bt190.1))), bt190.2)))))))))) = some (r1, r2) := h
  clear h
  replace H := Option.bind_eq_some_iff.mp H
  obtain ⟨⟨t182, t183⟩, A20, H⟩ := H
  replace H : (if t182 = 0 then (some (0, t183)) else (if t182 = 1 then (some (8388607, t183)) else (if t182 = 2 then (some ((-8388608), t183)) else (if t182 = 3 then ((soundservicemade_Dice_Next.f t183 256).bind fun bt184 => (some (wrap32 ((wrap32 (bt184.1)) - 128), bt184.2))) else ((soundservicemade_Dice_Next.f t183 256).bind fun bt186 => ((soundservicemade_Dice_Next.f bt186.2 256).bind fun bt188 => ((soundservicemade_Dice_Next.f bt188.2 256).bind fun bt190 => (some (wrap32 ((wrap32 ((wrap32 ((wrap32 ((wrap32 (bt186.1)) * 65536)) - 8388608)) + (wrap32 ((wrap32 (bt188.1)) * 256)))) + (wrap32 (bt190.1))), bt190.2))))))))) = some (r1, r2) := H
  have A2 := Aside0.mk A20
  clear A20
  by_cases c3 : t182 = 0
  · rw [if_pos c3] at H
    have c3b0 : (t182 == 0) = true := beq_iff_eq.mpr c3
    have c3b1 : (t182 != 0) = false := bne_eq_false_iff_eq.mpr c3
    clear c3
    simp only [Option.some.injEq, Prod.mk.injEq] at H
    obtain ⟨rfl, rfl⟩ := H
    go_enter Try.func23, Try.ntmps23
    go_wp2_with (first | ((with_reducible refine gate_callee (f := 21) rfl ?_); refine goesL_ (some 4) rfl rfl Try.func21 (by kernel_rfl) rfl #[.pointer (some ⟨g, 0, none⟩), .int .i64 8] rfl (by (try simp only [List.map_toArray, List.map_cons, List.map_nil]); first | done | rfl | (simp only [List.length_drop, List.length_take]; rfl)) ?_; (with_reducible refine (soundservicemade_Dice_Next.calls g s0_0 8 t182 t183 w0 _ ?side1 ?side2 A2.out).mono ?_); (case side1 => repeat (first | (with_reducible first | exact HI0.out | apply IsS56.alloc | apply IsS56.drewN | apply IsS56.drew | apply IsS56.set_0) | exact HI0.out)); (case side2 => repeat (first | (with_reducible first | exact HB.out | apply below_alloc | apply pw_below_drewN | apply below_drew1 | refine below_set ?_ (IsS56.ge HI0.out)) | exact HB.out)); rintro e w4 ⟨rfl, hi, hb, hk⟩; refine ⟨_, rfl, ?_⟩; have n0_ := Aside0.mk (KeepBut.trans (by repeat (first | (with_reducible first | exact HK.out | apply KeepBut.set_ | apply keep_drewN | apply keep_drew | apply keep_alloc) | exact HK.out)) hk (.inl rfl)); have n1_ := Aside0.mk (hb); have n2_ := Aside0.mk (hi); clear HK; clear HB; clear HI0; have HK := n0_; have HB := n1_; have HI0 := n2_; clear n0_ n1_ n2_; (try clear hb); (try clear hb2); (try clear hk); (try clear hi); (try clear hgw)))
    go_ret
    exact ⟨by first | rfl | (simp [errW_none, errW_some] <;> rfl) | (simp [*, errW_none, errW_some] <;> rfl), by repeat (first | (with_reducible first | exact HI0.out | apply IsS56.alloc | apply IsS56.drewN | apply IsS56.drew | apply IsS56.set_0) | exact HI0.out), by repeat (first | (with_reducible first | exact HB.out | apply below_alloc | apply pw_below_drewN | apply below_drew1 | refine below_set ?_ (IsS56.ge HI0.out)) | exact HB.out), by repeat (first | (with_reducible first | exact HK.out | apply KeepBut.set_ | apply keep_drewN | apply keep_drew | apply keep_alloc) | exact HK.out)⟩
  · rw [if_neg c3] at H
    have c3b0 : (t182 == 0) = false := beq_eq_false_iff_ne.mpr c3
    have c3b1 : (t182 != 0) = true := bne_iff_ne.mpr c3
    by_cases c5 : t182 = 1
    · rw [if_pos c5] at H
      have c5b0 : (t182 == 1) = true := beq_iff_eq.mpr c5
      have c5b1 : (t182 != 1) = false := bne_eq_false_iff_eq.mpr c5
      clear c5
      simp only [Option.some.injEq, Prod.mk.injEq] at H
      obtain ⟨rfl, rfl⟩ := H
      go_enter Try.func23, Try.ntmps23
      go_wp2_with (first | ((with_reducible refine gate_callee (f := 21) rfl ?_); refine goesL_ (some 4) rfl rfl Try.func21 (by kernel_rfl) rfl #[.pointer (some ⟨g, 0, none⟩), .int .i64 8] rfl (by (try simp only [List.map_toArray, List.map_cons, List.map_nil]); first | done | rfl | (simp only [List.length_drop, List.length_take]; rfl)) ?_; (with_reducible refine (soundservicemade_Dice_Next.calls g s0_0 8 t182 t183 w0 _ ?side1 ?side2 A2.out).mono ?_); (case side1 => repeat (first | (with_reducible first | exact HI0.out | apply IsS56.alloc | apply IsS56.drewN | apply IsS56.drew | apply IsS56.set_0) | exact HI0.out)); (case side2 => repeat (first | (with_reducible first | exact HB.out | apply below_alloc | apply pw_below_drewN | apply below_drew1 | refine below_set ?_ (IsS56.ge HI0.out)) | exact HB.out)); rintro e w6 ⟨rfl, hi, hb, hk⟩; refine ⟨_, rfl, ?_⟩; have n0_ := Aside0.mk (KeepBut.trans (by repeat (first | (with_reducible first | exact HK.out | apply KeepBut.set_ | apply keep_drewN | apply keep_drew | apply keep_alloc) | exact HK.out)) hk (.inl rfl)); have n1_ := Aside0.mk (hb); have n2_ := Aside0.mk (hi); clear HK; clear HB; clear HI0; have HK := n0_; have HB := n1_; have HI0 := n2_; clear n0_ n1_ n2_; (try clear hb); (try clear hb2); (try clear hk); (try clear hi); (try clear hgw)))
      go_ret
      exact ⟨by first | rfl | (simp [errW_none, errW_some] <;> rfl) | (simp [*, errW_none, errW_some] <;> rfl), by repeat (first | (with_reducible first | exact HI0.out | apply IsS56.alloc | apply IsS56.drewN | apply IsS56.drew | apply IsS56.set_0) | exact HI0.out), by repeat (first | (with_reducible first | exact HB.out | apply below_alloc | apply pw_below_drewN | apply below_drew1 | refine below_set ?_ (IsS56.ge HI0.out)) | exact HB.out), by repeat (first | (with_reducible first | exact HK.out | apply KeepBut.set_ | apply keep_drewN | apply keep_drew | apply keep_alloc) | exact HK.out)⟩
    · rw [if_neg c5] at H
      have c5b0 : (t182 == 1) = false := beq_eq_false_iff_ne.mpr c5
      have c5b1 : (t182 != 1) = true := bne_iff_ne.mpr c5
      by_cases c7 : t182 = 2
      · rw [if_pos c7] at H
        have c7b0 : (t182 == 2) = true := beq_iff_eq.mpr c7
        have c7b1 : (t182 != 2) = false := bne_eq_false_iff_eq.mpr c7
        clear c7
        simp only [Option.some.injEq, Prod.mk.injEq] at H
        obtain ⟨rfl, rfl⟩ := H
        go_enter Try.func23, Try.ntmps23
        go_wp2_with (first | ((with_reducible refine gate_callee (f := 21) rfl ?_); refine goesL_ (some 4) rfl rfl Try.func21 (by kernel_rfl) rfl #[.pointer (some ⟨g, 0, none⟩), .int .i64 8] rfl (by (try simp only [List.map_toArray, List.map_cons, List.map_nil]); first | done | rfl | (simp only [List.length_drop, List.length_take]; rfl)) ?_; (with_reducible refine (soundservicemade_Dice_Next.calls g s0_0 8 t182 t183 w0 _ ?side1 ?side2 A2.out).mono ?_); (case side1 => repeat (first | (with_reducible first | exact HI0.out | apply IsS56.alloc | apply IsS56.drewN | apply IsS56.drew | apply IsS56.set_0) | exact HI0.out)); (case side2 => repeat (first | (with_reducible first | exact HB.out | apply below_alloc | apply pw_below_drewN | apply below_drew1 | refine below_set ?_ (IsS56.ge HI0.out)) | exact HB.out)); rintro e w8 ⟨rfl, hi, hb, hk⟩; refine ⟨_, rfl, ?_⟩; have n0_ := Aside0.mk (KeepBut.trans (by repeat (first | (with_reducible first | exact HK.out | apply KeepBut.set_ | apply keep_drewN | apply keep_drew | apply keep_alloc) | exact HK.out)) hk (.inl rfl)); have n1_ := Aside0.mk (hb); have n2_ := Aside0.mk (hi); clear HK; clear HB; clear HI0; have HK := n0_; have HB := n1_; have HI0 := n2_; clear n0_ n1_ n2_; (try clear hb); (try clear hb2); (try clear hk); (try clear hi); (try clear hgw)))
        go_ret
        exact ⟨by first | rfl | (simp [errW_none, errW_some] <;> rfl) | (simp [*, errW_none, errW_some] <;> rfl), by repeat (first | (with_reducible first | exact HI0.out | apply IsS56.alloc | apply IsS56.drewN | apply IsS56.drew | apply IsS56.set_0) | exact HI0.out), by repeat (first | (with_reducible first | exact HB.out | apply below_alloc | apply pw_below_drewN | apply below_drew1 | refine below_set ?_ (IsS56.ge HI0.out)) | exact HB.out), by repeat (first | (with_reducible first | exact HK.out | apply KeepBut.set_ | apply keep_drewN | apply keep_drew | apply keep_alloc) | exact HK.out)⟩
      · rw [if_neg c7] at H
        have c7b0 : (t182 == 2) = false := beq_eq_false_iff_ne.mpr c7
        have c7b1 : (t182 != 2) = true := bne_iff_ne.mpr c7
        by_cases c9 : t182 = 3
        · rw [if_pos c9] at H
          have c9b0 : (t182 == 3) = true := beq_iff_eq.mpr c9
          have c9b1 : (t182 != 3) = false := bne_eq_false_iff_eq.mpr c9
          clear c9
          replace H := Option.bind_eq_some_iff.mp H
          obtain ⟨⟨t184, t185⟩, A100, H⟩ := H
          replace H : (some (wrap32 ((wrap32 (t184)) - 128), t185)) = some (r1, r2) := H
          have A10 := Aside0.mk A100
          clear A100
          simp only [Option.some.injEq, Prod.mk.injEq] at H
          obtain ⟨rfl, rfl⟩ := H
          go_enter Try.func23, Try.ntmps23
          go_wp2_with (first | ((with_reducible refine gate_callee (f := 21) rfl ?_); refine goesL_ (some 4) rfl rfl Try.func21 (by kernel_rfl) rfl #[.pointer (some ⟨g, 0, none⟩), .int .i64 8] rfl (by (try simp only [List.map_toArray, List.map_cons, List.map_nil]); first | done | rfl | (simp only [List.length_drop, List.length_take]; rfl)) ?_; (with_reducible refine (soundservicemade_Dice_Next.calls g s0_0 8 t182 t183 w0 _ ?side1 ?side2 A2.out).mono ?_); (case side1 => repeat (first | (with_reducible first | exact HI0.out | apply IsS56.alloc | apply IsS56.drewN | apply IsS56.drew | apply IsS56.set_0) | exact HI0.out)); (case side2 => repeat (first | (with_reducible first | exact HB.out | apply below_alloc | apply pw_below_drewN | apply below_drew1 | refine below_set ?_ (IsS56.ge HI0.out)) | exact HB.out)); rintro e w11 ⟨rfl, hi, hb, hk⟩; refine ⟨_, rfl, ?_⟩; have n0_ := Aside0.mk (KeepBut.trans (by repeat (first | (with_reducible first | exact HK.out | apply KeepBut.set_ | apply keep_drewN | apply keep_drew | apply keep_alloc) | exact HK.out)) hk (.inl rfl)); have n1_ := Aside0.mk (hb); have n2_ := Aside0.mk (hi); clear HK; clear HB; clear HI0; have HK := n0_; have HB := n1_; have HI0 := n2_; clear n0_ n1_ n2_; (try clear hb); (try clear hb2); (try clear hk); (try clear hi); (try clear hgw)) | ((with_reducible refine gate_callee (f := 21) rfl ?_); refine goesL_ (some 14) rfl rfl Try.func21 (by kernel_rfl) rfl #[.pointer (some ⟨g, 0, none⟩), .int .i64 256] rfl (by (try simp only [List.map_toArray, List.map_cons, List.map_nil]); first | done | rfl | (simp only [List.length_drop, List.length_take]; rfl)) ?_; (with_reducible refine (soundservicemade_Dice_Next.calls g t183 256 t184 t185 w0 _ ?side1 ?side2 A10.out).mono ?_); (case side1 => repeat (first | (with_reducible first | exact HI0.out | apply IsS56.alloc | apply IsS56.drewN | apply IsS56.drew | apply IsS56.set_0) | exact HI0.out)); (case side2 => repeat (first | (with_reducible first | exact HB.out | apply below_alloc | apply pw_below_drewN | apply below_drew1 | refine below_set ?_ (IsS56.ge HI0.out)) | exact HB.out)); rintro e w12 ⟨rfl, hi, hb, hk⟩; refine ⟨_, rfl, ?_⟩; have n0_ := Aside0.mk (KeepBut.trans (by repeat (first | (with_reducible first | exact HK.out | apply KeepBut.set_ | apply keep_drewN | apply keep_drew | apply keep_alloc) | exact HK.out)) hk (.inl rfl)); have n1_ := Aside0.mk (hb); have n2_ := Aside0.mk (hi); clear HK; clear HB; clear HI0; have HK := n0_; have HB := n1_; have HI0 := n2_; clear n0_ n1_ n2_; (try clear hb); (try clear hb2); (try clear hk); (try clear hi); (try clear hgw)))
          go_ret
          exact ⟨by first | rfl | (simp [errW_none, errW_some] <;> rfl) | (simp [*, errW_none, errW_some] <;> rfl), by repeat (first | (with_reducible first | exact HI0.out | apply IsS56.alloc | apply IsS56.drewN | apply IsS56.drew | apply IsS56.set_0) | exact HI0.out), by repeat (first | (with_reducible first | exact HB.out | apply below_alloc | apply pw_below_drewN | apply below_drew1 | refine below_set ?_ (IsS56.ge HI0.out)) | exact HB.out), by repeat (first | (with_reducible first | exact HK.out | apply KeepBut.set_ | apply keep_drewN | apply keep_drew | apply keep_alloc) | exact HK.out)⟩
        · rw [if_neg c9] at H
          have c9b0 : (t182 == 3) = false := beq_eq_false_iff_ne.mpr c9
          have c9b1 : (t182 != 3) = true := bne_iff_ne.mpr c9
          replace H := Option.bind_eq_some_iff.mp H
          obtain ⟨⟨t186, t187⟩, A130, H⟩ := H
          replace H : ((soundservicemade_Dice_Next.f t187 256).bind fun bt188 => ((soundservicemade_Dice_Next.f bt188.2 256).bind fun bt190 => (some (wrap32 ((wrap32 ((wrap32 ((wrap32 ((wrap32 (t186)) * 65536)) - 8388608)) + (wrap32 ((wrap32 (bt188.1)) * 256)))) + (wrap32 (bt190.1))), bt190.2)))) = some (r1, r2) := H
          have A13 := Aside0.mk A130
          clear A130
          replace H := Option.bind_eq_some_iff.mp H
          obtain ⟨⟨t188, t189⟩, A140, H⟩ := H
          replace H : ((soundservicemade_Dice_Next.f t189 256).bind fun bt190 => (some (wrap32 ((wrap32 ((wrap32 ((wrap32 ((wrap32 (t186)) * 65536)) - 8388608)) + (wrap32 ((wrap32 (t188)) * 256)))) + (wrap32 (bt190.1))), bt190.2))) = some (r1, r2) := H
          have A14 := Aside0.mk A140
          clear A140
          replace H := Option.bind_eq_some_iff.mp H
          obtain ⟨⟨t190, t191⟩, A150, H⟩ := H
          replace H : (some (wrap32 ((wrap32 ((wrap32 ((wrap32 ((wrap32 (t186)) * 65536)) - 8388608)) + (wrap32 ((wrap32 (t188)) * 256)))) + (wrap32 (t190))), t191)) = some (r1, r2) := H
          have A15 := Aside0.mk A150
          clear A150
          simp only [Option.some.injEq, Prod.mk.injEq] at H
          obtain ⟨rfl, rfl⟩ := H
          go_enter Try.func23, Try.ntmps23
          go_wp2_with (first | ((with_reducible refine gate_callee (f := 21) rfl ?_); refine goesL_ (some 4) rfl rfl Try.func21 (by kernel_rfl) rfl #[.pointer (some ⟨g, 0, none⟩), .int .i64 8] rfl (by (try simp only [List.map_toArray, List.map_cons, List.map_nil]); first | done | rfl | (simp only [List.length_drop, List.length_take]; rfl)) ?_; (with_reducible refine (soundservicemade_Dice_Next.calls g s0_0 8 t182 t183 w0 _ ?side1 ?side2 A2.out).mono ?_); (case side1 => repeat (first | (with_reducible first | exact HI0.out | apply IsS56.alloc | apply IsS56.drewN | apply IsS56.drew | apply IsS56.set_0) | exact HI0.out)); (case side2 => repeat (first | (with_reducible first | exact HB.out | apply below_alloc | apply pw_below_drewN | apply below_drew1 | refine below_set ?_ (IsS56.ge HI0.out)) | exact HB.out)); rintro e w16 ⟨rfl, hi, hb, hk⟩; refine ⟨_, rfl, ?_⟩; have n0_ := Aside0.mk (KeepBut.trans (by repeat (first | (with_reducible first | exact HK.out | apply KeepBut.set_ | apply keep_drewN | apply keep_drew | apply keep_alloc) | exact HK.out)) hk (.inl rfl)); have n1_ := Aside0.mk (hb); have n2_ := Aside0.mk (hi); clear HK; clear HB; clear HI0; have HK := n0_; have HB := n1_; have HI0 := n2_; clear n0_ n1_ n2_; (try clear hb); (try clear hb2); (try clear hk); (try clear hi); (try clear hgw)) | ((with_reducible refine gate_callee (f := 21) rfl ?_); refine goesL_ (some 18) rfl rfl Try.func21 (by kernel_rfl) rfl #[.pointer (some ⟨g, 0, none⟩), .int .i64 256] rfl (by (try simp only [List.map_toArray, List.map_cons, List.map_nil]); first | done | rfl | (simp only [List.length_drop, List.length_take]; rfl)) ?_; (with_reducible refine (soundservicemade_Dice_Next.calls g t183 256 t186 t187 w0 _ ?side1 ?side2 A13.out).mono ?_); (case side1 => repeat (first | (with_reducible first | exact HI0.out | apply IsS56.alloc | apply IsS56.drewN | apply IsS56.drew | apply IsS56.set_0) | exact HI0.out)); (case side2 => repeat (first | (with_reducible first | exact HB.out | apply below_alloc | apply pw_below_drewN | apply below_drew1 | refine below_set ?_ (IsS56.ge HI0.out)) | exact HB.out)); rintro e w17 ⟨rfl, hi, hb, hk⟩; refine ⟨_, rfl, ?_⟩; have n0_ := Aside0.mk (KeepBut.trans (by repeat (first | (with_reducible first | exact HK.out | apply KeepBut.set_ | apply keep_drewN | apply keep_drew | apply keep_alloc) | exact HK.out)) hk (.inl rfl)); have n1_ := Aside0.mk (hb); have n2_ := Aside0.mk (hi); clear HK; clear HB; clear HI0; have HK := n0_; have HB := n1_; have HI0 := n2_; clear n0_ n1_ n2_; (try clear hb); (try clear hb2); (try clear hk); (try clear hi); (try clear hgw)) | ((with_reducible refine gate_callee (f := 21) rfl ?_); refine goesL_ (some 23) rfl rfl Try.func21 (by kernel_rfl) rfl #[.pointer (some ⟨g, 0, none⟩), .int .i64 256] rfl (by (try simp only [List.map_toArray, List.map_cons, List.map_nil]); first | done | rfl | (simp only [List.length_drop, List.length_take]; rfl)) ?_; (with_reducible refine (soundservicemade_Dice_Next.calls g t187 256 t188 t189 w0 _ ?side1 ?side2 A14.out).mono ?_); (case side1 => repeat (first | (with_reducible first | exact HI0.out | apply IsS56.alloc | apply IsS56.drewN | apply IsS56.drew | apply IsS56.set_0) | exact HI0.out)); (case side2 => repeat (first | (with_reducible first | exact HB.out | apply below_alloc | apply pw_below_drewN | apply below_drew1 | refine below_set ?_ (IsS56.ge HI0.out)) | exact HB.out)); rintro e w18 ⟨rfl, hi, hb, hk⟩; refine ⟨_, rfl, ?_⟩; have n0_ := Aside0.mk (KeepBut.trans (by repeat (first | (with_reducible first | exact HK.out | apply KeepBut.set_ | apply keep_drewN | apply keep_drew | apply keep_alloc) | exact HK.out)) hk (.inl rfl)); have n1_ := Aside0.mk (hb); have n2_ := Aside0.mk (hi); clear HK; clear HB; clear HI0; have HK := n0_; have HB := n1_; have HI0 := n2_; clear n0_ n1_ n2_; (try clear hb); (try clear hb2); (try clear hk); (try clear hi); (try clear hgw)) | ((with_reducible refine gate_callee (f := 21) rfl ?_); refine goesL_ (some 28) rfl rfl Try.func21 (by kernel_rfl) rfl #[.pointer (some ⟨g, 0, none⟩), .int .i64 256] rfl (by (try simp only [List.map_toArray, List.map_cons, List.map_nil]); first | done | rfl | (simp only [List.length_drop, List.length_take]; rfl)) ?_; (with_reducible refine (soundservicemade_Dice_Next.calls g t189 256 t190 t191 w0 _ ?side1 ?side2 A15.out).mono ?_); (case side1 => repeat (first | (with_reducible first | exact HI0.out | apply IsS56.alloc | apply IsS56.drewN | apply IsS56.drew | apply IsS56.set_0) | exact HI0.out)); (case side2 => repeat (first | (with_reducible first | exact HB.out | apply below_alloc | apply pw_below_drewN | apply below_drew1 | refine below_set ?_ (IsS56.ge HI0.out)) | exact HB.out)); rintro e w19 ⟨rfl, hi, hb, hk⟩; refine ⟨_, rfl, ?_⟩; have n0_ := Aside0.mk (KeepBut.trans (by repeat (first | (with_reducible first | exact HK.out | apply KeepBut.set_ | apply keep_drewN | apply keep_drew | apply keep_alloc) | exact HK.out)) hk (.inl rfl)); have n1_ := Aside0.mk (hb); have n2_ := Aside0.mk (hi); clear HK; clear HB; clear HI0; have HK := n0_; have HB := n1_; have HI0 := n2_; clear n0_ n1_ n2_; (try clear hb); (try clear hb2); (try clear hk); (try clear hi); (try clear hgw)))
          go_ret
          exact ⟨by first | rfl | (simp [errW_none, errW_some] <;> rfl) | (simp [*, errW_none, errW_some] <;> rfl), by repeat (first | (with_reducible first | exact HI0.out | apply IsS56.alloc | apply IsS56.drewN | apply IsS56.drew | apply IsS56.set_0) | exact HI0.out), by repeat (first | (with_reducible first | exact HB.out | apply below_alloc | apply pw_below_drewN | apply below_drew1 | refine below_set ?_ (IsS56.ge HI0.out)) | exact HB.out), by repeat (first | (with_reducible first | exact HK.out | apply KeepBut.set_ | apply keep_drewN | apply keep_drew | apply keep_alloc) | exact HK.out)⟩

/-! ### soundservicelaw08_sums: function 11 -/
def soundservicelaw08_sums.l0 : Nat → Int → List Int → Int → List Int → Option (List Int × List Int)
  | 0, _, _, _, _ => none
  | k + 1, x1, x5, x6, x1000 => if x6 < x1 then ((soundservicemade_Dice_Sample.f x1000).bind fun bt192 => ((some (([0, 1, 1, 2, 32, (-1)] : List Int) : List Int)).bind fun y194 => ((soundservicemade_Dice_Next.f bt192.2 6).bind fun bt197 => (if 0 ≤ bt197.1 then (if bt197.1 < (y194.length : Int) then (if x5.length < 17592186044416 then (soundservicelaw08_sums.l0 k x1 (x5 ++ [wrap64 ((wrap64 (bt192.1)) * (rd y194 bt197.1))]) (wrap64 (x6 + 1)) bt197.2) else (none)) else (none)) else (none))))) else (some (x5, x1000))
def soundservicelaw08_sums.f (k : Nat) (s0_0 : List Int) (a1 : Int) : Option (List Int × List Int) := soundservicelaw08_sums.l0 k a1 ([] : List Int) 0 s0_0
theorem soundservicelaw08_sums.mono_l : ∀ k, (∀ y0 y1 y2 y3, LeO (soundservicelaw08_sums.l0 k y0 y1 y2 y3) (soundservicelaw08_sums.l0 (k + 1) y0 y1 y2 y3))
  | 0 => fun _ _ _ _ r h => by simp [soundservicelaw08_sums.l0] at h
  | k + 1 => by
    have ih0 := soundservicelaw08_sums.mono_l k
    · intro y0 y1 y2 y3
      unfold soundservicelaw08_sums.l0
      repeat' first
      | (with_reducible exact ih0 _ _ _ _)
      | (with_reducible exact LeO.refl _)
      | (with_reducible exact LeO.none _)
      | (with_reducible refine LeO.ite ?_ ?_)
      | (with_reducible refine LeO.bind ?_ (fun _ => ?_))
      | exact ih0 _ _ _ _
      | exact LeO.none _
      | refine LeO.ite ?_ ?_
      | refine LeO.bind ?_ (fun _ => ?_)
theorem soundservicelaw08_sums.mono : ∀ a0 a1 k, LeO (soundservicelaw08_sums.f k a0 a1) (soundservicelaw08_sums.f (k + 1) a0 a1) := by
  intro a0 a1 k
  have ih0 := soundservicelaw08_sums.mono_l k
  unfold soundservicelaw08_sums.f
  repeat' first
      | (with_reducible exact ih0 _ _ _ _)
      | (with_reducible exact LeO.refl _)
      | (with_reducible exact LeO.none _)
      | (with_reducible refine LeO.ite ?_ ?_)
      | (with_reducible refine LeO.bind ?_ (fun _ => ?_))
      | exact ih0 _ _ _ _
      | exact LeO.none _
      | refine LeO.ite ?_ ?_
      | refine LeO.bind ?_ (fun _ => ?_)
set_option maxHeartbeats 8000000 in
set_option maxRecDepth 100000 in
theorem soundservicelaw08_sums.calls (k : Nat) (g : Nat) (s0_0 : List Int) (a1 : Int) (r1 : List Int) (r2 : List Int) (w0 w : World) (hI : IsS56 w0 w g s0_0) (hB : Below w0.heap.size w0 w) (h : soundservicelaw08_sums.f k s0_0 a1 = some (r1, r2)) :
    Calls Try.prog 11 #[.pointer (some ⟨g, 0, none⟩), .int .i64 a1] w fun e w' => ∃ v0_ : Value, e = .returned (v0_) ∧ Kd.R (Kd.int .i64) 2 w' w.heap.size (fun _ => True) v0_ r1 ∧ IsS56 w0 w' g r2 ∧ Below w0.heap.size w0 w' ∧ KeepBut w w' g none := by
  have HGT := Aside0.mk (IsS56.lt hI)
  have HI0 := Aside0.mk hI
  have HK := Aside0.mk (KeepBut.refl w g none)
  have HL := Aside0.mk hB.size
  clear hI
  have HW0 := Aside0.mk hB.size
  have HB := Aside0.mk hB
  clear hB
  have H : (soundservicelaw08_sums.l0 k a1 ([] : List Int) 0 s0_0) = some (r1, r2) := h
  clear h
  have H' := Aside0.mk H
  clear H
  go_enter Try.func11, Try.ntmps11
  go_wp2
  go_loopg [5, 6] k (fun kq v5 v6 w' => ∃ (x5_1 : List Int) (x6_1 : Int) (x1000_1 : List Int), v6 = .int .i64 x6_1 ∧ Aside0 (soundservicelaw08_sums.l0 kq a1 x5_1 x6_1 x1000_1 = some (r1, r2)) ∧ Aside0 (kq ≤ k) ∧ Aside0 (Kd.R (Kd.int .i64) 2 w' w.heap.size (fun _ => True) v5 x5_1) ∧ Aside0 (IsS56 w0 w' g x1000_1) ∧ Aside0 (KeepBut w w' g none) ∧ Aside0 (Below w0.heap.size w0 w'))
  case atStart => exact ⟨(([] : List Int)), (0), (s0_0), (by first | rfl | (simp; done) | (simp [*]; done)), H', ⟨Nat.le_refl _⟩, ⟨by first | exact Kd.R_nil _ _ _ _ _ | exact Kd.N_nil _ _ _ _ _ | exact Kd.V_nil _ _ _ _ _ | exact Kd.Q_nil _ _ _ _ _ | exact Kd.S_nil _ _ _ _ _⟩, ⟨by repeat (first | (with_reducible first | exact HI0.out | apply IsS56.alloc | apply IsS56.drewN | apply IsS56.drew | apply IsS56.set_0) | exact HI0.out)⟩, ⟨by repeat (first | (with_reducible first | exact HK.out | apply KeepBut.set_ | apply keep_drewN | apply keep_drew | apply keep_alloc) | exact HK.out)⟩, ⟨by repeat (first | (with_reducible first | exact HB.out | apply below_alloc | apply pw_below_drewN | apply below_drew1 | refine below_set ?_ (IsS56.ge HI0.out)) | exact HB.out)⟩⟩
  case round =>
    clear H'
    try clear c1
    try clear p2
    obtain ⟨x5_1, x6_1, x1000_1, rfl, HA, HK1, HO_5, HI0, HK, HB⟩ := hrel
    cases gk with
    | zero => exact absurd HA.out (by simp [soundservicelaw08_sums.l0])
    | succ k1 =>
      have H := HA.out
      clear HA
      simp only [soundservicelaw08_sums.l0] at H
      by_cases c3 : x6_1 < a1
      · rw [if_pos c3] at H
        have c3b0 : decide (x6_1 < a1) = true := decide_eq_true c3
        clear c3
        replace H := Option.bind_eq_some_iff.mp H
        obtain ⟨⟨t192, t193⟩, A40, H⟩ := H
        replace H : ((some (([0, 1, 1, 2, 32, (-1)] : List Int) : List Int)).bind fun y194 => ((soundservicemade_Dice_Next.f t193 6).bind fun bt197 => (if 0 ≤ bt197.1 then (if bt197.1 < (y194.length : Int) then (if x5_1.length < 17592186044416 then (soundservicelaw08_sums.l0 k1 a1 (x5_1 ++ [wrap64 ((wrap64 (t192)) * (rd y194 bt197.1))]) (wrap64 (x6_1 + 1)) bt197.2) else (none)) else (none)) else (none)))) = some (r1, r2) := H
        have A4 := Aside0.mk A40
        clear A40
        obtain ⟨y194, hy194⟩ : ∃ y_ : List Int, y_ = (([0, 1, 1, 2, 32, (-1)] : List Int)) := ⟨_, rfl⟩
        replace H : ((soundservicemade_Dice_Next.f t193 6).bind fun bt197 => (if 0 ≤ bt197.1 then (if bt197.1 < (y194.length : Int) then (if x5_1.length < 17592186044416 then (soundservicelaw08_sums.l0 k1 a1 (x5_1 ++ [wrap64 ((wrap64 (t192)) * (rd y194 bt197.1))]) (wrap64 (x6_1 + 1)) bt197.2) else (none)) else (none)) else (none))) = some (r1, r2) := by first | (rw [hy194]; with_reducible exact H) | (have H2_ := (Option.bind_some _ _).symm.trans H; rw [hy194]; with_reducible exact H2_) | (have H2_ := (Option.bind_some _ _).symm.trans H; with_reducible exact H2_) | with_reducible exact H | (rw [hy194]; exact H) | exact H
        have Ny194 := Aside0.mk hy194
        clear hy194
        replace H := Option.bind_eq_some_iff.mp H
        obtain ⟨⟨t197, t198⟩, A50, H⟩ := H
        replace H : (if 0 ≤ t197 then (if t197 < (y194.length : Int) then (if x5_1.length < 17592186044416 then (soundservicelaw08_sums.l0 k1 a1 (x5_1 ++ [wrap64 ((wrap64 (t192)) * (rd y194 t197))]) (wrap64 (x6_1 + 1)) t198) else (none)) else (none)) else (none)) = some (r1, r2) := H
        have A5 := Aside0.mk A50
        clear A50
        by_cases c6 : 0 ≤ t197
        · rw [if_pos c6] at H
          have c6b0 : decide (0 ≤ t197) = true := decide_eq_true c6
          clear c6
          by_cases c7 : t197 < (y194.length : Int)
          · rw [if_pos c7] at H
            have c7b0 : decide (t197 < (y194.length : Int)) = true := decide_eq_true c7
            clear c7
            by_cases c8 : x5_1.length < 17592186044416
            · rw [if_pos c8] at H
              have LMc8 := Aside0.mk c8
              clear c8
              obtain ⟨y200, hy200⟩ : ∃ y_ : List Int, y_ = (x5_1 ++ [wrap64 ((wrap64 (t192)) * (rd y194 t197))]) := ⟨_, rfl⟩
              replace H : (soundservicelaw08_sums.l0 k1 a1 y200 (wrap64 (x6_1 + 1)) t198) = some (r1, r2) := by first | (rw [hy200]; with_reducible exact H) | (have H2_ := (Option.bind_some _ _).symm.trans H; rw [hy200]; with_reducible exact H2_) | (have H2_ := (Option.bind_some _ _).symm.trans H; with_reducible exact H2_) | with_reducible exact H | (rw [hy200]; exact H) | exact H
              have Ny200 := Aside0.mk hy200
              clear hy200
              have H' := Aside0.mk H
              clear H
              go_wp2_with (first | ((with_reducible refine gate_callee (f := 23) rfl ?_); refine goesL_ (some 14) rfl rfl Try.func23 (by kernel_rfl) rfl #[.pointer (some ⟨g, 0, none⟩)] rfl (by (try simp only [List.map_toArray, List.map_cons, List.map_nil]); first | done | rfl | (simp only [List.length_drop, List.length_take]; rfl)) ?_; (with_reducible refine (soundservicemade_Dice_Sample.calls g x1000_1 t192 t193 w0 _ ?side1 ?side2 A4.out).mono ?_); (case side1 => repeat (first | (with_reducible first | exact HI0.out | apply IsS56.alloc | apply IsS56.drewN | apply IsS56.drew | apply IsS56.set_0) | exact HI0.out)); (case side2 => repeat (first | (with_reducible first | exact HB.out | apply below_alloc | apply pw_below_drewN | apply below_drew1 | refine below_set ?_ (IsS56.ge HI0.out)) | exact HB.out)); rintro e w9 ⟨rfl, hi, hb, hk⟩; refine ⟨_, rfl, ?_⟩; have n0_ := Aside0.mk (Kd.R_mono (Kd.R_keep (IsS56.apart (show IsS56 w0 _ g x1000_1 from by repeat (first | (with_reducible first | exact HI0.out | apply IsS56.alloc | apply IsS56.drewN | apply IsS56.drew | apply IsS56.set_0) | exact HI0.out)) (by (with_reducible repeat (first | apply Kd.R_alloc | apply Kd.R_drewN | apply Kd.R_drew)); exact HO_5.out) (by decide)) hk (fun _ h => h.2)) (fun _ h => h.1)); have n1_ := Aside0.mk (KeepBut.trans (by repeat (first | (with_reducible first | exact HK.out | apply KeepBut.set_ | apply keep_drewN | apply keep_drew | apply keep_alloc) | exact HK.out)) hk (.inl rfl)); have n2_ := Aside0.mk (hb); have n3_ := Aside0.mk (hi); clear HO_5; clear HK; clear HB; clear HI0; have HO_5 := n0_; have HK := n1_; have HB := n2_; have HI0 := n3_; clear n0_ n1_ n2_ n3_; (try clear hb); (try clear hb2); (try clear hk); (try clear hi); (try clear hgw)) | ((with_reducible refine gate_dst (N := 16) rfl ?_); refine Kd.R_lit (Kd.int .i64) _ 3 ?hg (N := 16) ?hd (xs := ([0, 1, 1, 2, 32, (-1)] : List Int)) (inner := [.int .i64 0, .int .i64 1, .int .i64 1, .int .i64 2, .int .i64 32, .int .i64 (-1)]) (ok := fun _ => True) (okp := fun _ => True) ?hr ?hp (fun _ hk => hk) trivial (Below.refl _ _) (Nat.le_refl _) (by simp) ?_; (case hd => rfl); (case hg => rfl); (case hr => first | (go_simp; done) | (go_simp; rfl)); (case hp => exact (Reps.one (show Kd.M (Kd.int .i64) _ _ _ 0 [.int .i64 0] from rfl) (Reps.one (show Kd.M (Kd.int .i64) _ _ _ 1 [.int .i64 1] from rfl) (Reps.one (show Kd.M (Kd.int .i64) _ _ _ 1 [.int .i64 1] from rfl) (Reps.one (show Kd.M (Kd.int .i64) _ _ _ 2 [.int .i64 2] from rfl) (Reps.one (show Kd.M (Kd.int .i64) _ _ _ 32 [.int .i64 32] from rfl) (Reps.one (show Kd.M (Kd.int .i64) _ _ _ (-1) [.int .i64 (-1)] from rfl) (Reps.none _ _)))))))); intro v195 w10 ho11 hb hg_ hnew_; clear hg_ hnew_; (first | rw [← Ny194.out] at ho11 | (simp only [Int.reduceToNat] at ho11; rw [← Ny194.out] at ho11)); have n0_ := Aside0.mk (Kd.R_below (by (with_reducible repeat (first | apply Kd.R_alloc | apply Kd.R_drewN | apply Kd.R_drew)); exact HO_5.out) hb); have n1_ := Aside0.mk (Kd.R_lower ho11 (keep_size (w := w) (g := g) (row := none) (by repeat (first | (with_reducible first | exact HK.out | apply KeepBut.set_ | apply keep_drewN | apply keep_drew | apply keep_alloc) | exact HK.out)))); have n2_ := Aside0.mk (IsS56.below (by repeat (first | (with_reducible first | exact HI0.out | apply IsS56.alloc | apply IsS56.drewN | apply IsS56.drew | apply IsS56.set_0) | exact HI0.out)) hb); have n3_ := Aside0.mk (KeepBut.trans (by repeat (first | (with_reducible first | exact HK.out | apply KeepBut.set_ | apply keep_drewN | apply keep_drew | apply keep_alloc) | exact HK.out)) (KeepBut.of_below hb g none) (.inl rfl)); have n4_ := Aside0.mk (below_step (by repeat (first | (with_reducible first | exact HB.out | apply below_alloc | apply pw_below_drewN | apply below_drew1 | refine below_set ?_ (IsS56.ge HI0.out)) | exact HB.out)) hb); clear HO_5; clear HI0; clear HK; clear HB; have HO_5 := n0_; have HO196 := n1_; have HI0 := n2_; have HK := n3_; have HB := n4_; clear n0_ n1_ n2_ n3_ n4_; clear hb ho11) | ((with_reducible refine gate_callee (f := 21) rfl ?_); refine goesL_ (some 18) rfl rfl Try.func21 (by kernel_rfl) rfl #[.pointer (some ⟨g, 0, none⟩), .int .i64 6] rfl (by (try simp only [List.map_toArray, List.map_cons, List.map_nil]); first | done | rfl | (simp only [List.length_drop, List.length_take]; rfl)) ?_; (with_reducible refine (soundservicemade_Dice_Next.calls g t193 6 t197 t198 w0 _ ?side1 ?side2 A5.out).mono ?_); (case side1 => repeat (first | (with_reducible first | exact HI0.out | apply IsS56.alloc | apply IsS56.drewN | apply IsS56.drew | apply IsS56.set_0) | exact HI0.out)); (case side2 => repeat (first | (with_reducible first | exact HB.out | apply below_alloc | apply pw_below_drewN | apply below_drew1 | refine below_set ?_ (IsS56.ge HI0.out)) | exact HB.out)); rintro e w12 ⟨rfl, hi, hb, hk⟩; refine ⟨_, rfl, ?_⟩; have n0_ := Aside0.mk (Kd.R_mono (Kd.R_keep (IsS56.apart (show IsS56 w0 _ g t193 from by repeat (first | (with_reducible first | exact HI0.out | apply IsS56.alloc | apply IsS56.drewN | apply IsS56.drew | apply IsS56.set_0) | exact HI0.out)) (by (with_reducible repeat (first | apply Kd.R_alloc | apply Kd.R_drewN | apply Kd.R_drew)); exact HO_5.out) (by decide)) hk (fun _ h => h.2)) (fun _ h => h.1)); have n1_ := Aside0.mk (Kd.R_mono (Kd.R_keep (IsS56.apart (show IsS56 w0 _ g t193 from by repeat (first | (with_reducible first | exact HI0.out | apply IsS56.alloc | apply IsS56.drewN | apply IsS56.drew | apply IsS56.set_0) | exact HI0.out)) (by (with_reducible repeat (first | apply Kd.R_alloc | apply Kd.R_drewN | apply Kd.R_drew)); exact HO196.out) (by decide)) hk (fun _ h => h.2)) (fun _ h => h.1)); have n2_ := Aside0.mk (KeepBut.trans (by repeat (first | (with_reducible first | exact HK.out | apply KeepBut.set_ | apply keep_drewN | apply keep_drew | apply keep_alloc) | exact HK.out)) hk (.inl rfl)); have n3_ := Aside0.mk (hb); have n4_ := Aside0.mk (hi); clear HO_5; clear HO196; clear HK; clear HB; clear HI0; have HO_5 := n0_; have HO196 := n1_; have HK := n2_; have HB := n3_; have HI0 := n4_; clear n0_ n1_ n2_ n3_ n4_; (try clear hb); (try clear hb2); (try clear hk); (try clear hi); (try clear hgw); obtain ⟨Ao13, co13, eo13⟩ := Kd.R_slice HO196.out; subst eo13; have p199 : 0 ≤ (t197 : Int) := of_decide_eq_true (by first | (with_reducible assumption) | assumption); have q199 : t197 < (y194.length : Int) := of_decide_eq_true (by first | (with_reducible assumption) | assumption); obtain ⟨ad199, e199, hx199_0⟩ := Kd.at_int (Kd.R_reads' HO196.out).2.2 t197 p199 q199; cases e199; replace p199 := eq_true p199; replace q199 := eq_true q199) | ((with_reducible refine gate_builtin (b := .append) (xs := #[.tmp 12, .tmp 22]) rfl ?_); at_builtin; refine Kd.R_append (Kd.int .i64) w.heap.size rfl (.tmp 12) (.tmp 22) 24 2 (.int .i64 0) 8 rfl Try.underlying24 info2 rfl (by decide) (by omega) u5 x5_1 (wrap64 ((wrap64 (t192)) * (rd y194 t197))) [.int .i64 (wrap64 ((wrap64 (t192)) * (rd y194 t197)))] (fun _ => True) (fun _ => False) rfl rfl ?aP (fun _ hk => hk.elim) ?aF ?aO (Below.refl _ _) ?aS ?aL ?_; (case aP => exact rfl); (case aF => exact (fun _ _ => trivial)); (case aO => exact (by (with_reducible repeat (first | apply Kd.R_alloc | apply Kd.R_drewN | apply Kd.R_drew)); exact HO_5.out)); (case aS => exact (keep_size (w := w) (g := g) (row := none) (by repeat (first | (with_reducible first | exact HK.out | apply KeepBut.set_ | apply keep_drewN | apply keep_drew | apply keep_alloc) | exact HK.out)))); (case aL => have := LMc8.out; omega); intro v201 w14 ho hb hg hat; rw [← Ny200.out] at ho; have n0_ := Aside0.mk (IsS56.grown (by repeat (first | (with_reducible first | exact HI0.out | apply IsS56.alloc | apply IsS56.drewN | apply IsS56.drew | apply IsS56.set_0) | exact HI0.out)) hg (IsS56.own_ne HI0.out HO_5.out (by decide))); have n1_ := Aside0.mk (Kd.R_over' (by (with_reducible repeat (first | apply Kd.R_alloc | apply Kd.R_drewN | apply Kd.R_drew)); exact HO196.out) (Kd.R_typed (by (with_reducible repeat (first | apply Kd.R_alloc | apply Kd.R_drewN | apply Kd.R_drew)); exact HO_5.out)) (by decide) hg); have n2_ := Aside0.mk (below_weaken (by repeat (first | (with_reducible first | exact HB.out | apply below_alloc | apply pw_below_drewN | apply below_drew1 | refine below_set ?_ (IsS56.ge HI0.out)) | exact HB.out)) HL.out hb); have n3_ := Aside0.mk (KeepBut.trans (by repeat (first | (with_reducible first | exact HK.out | apply KeepBut.set_ | apply keep_drewN | apply keep_drew | apply keep_alloc) | exact HK.out)) (KeepBut.of_grown hg g) (Kd.R_base2 HO_5.out)); have n4_ := Aside0.mk (ho); clear HI0; clear HO196; clear HB; clear HK; clear HO_5; have HI0 := n0_; have HO196 := n1_; have HB := n2_; have HK := n3_; have HO202 := n4_; clear n0_ n1_ n2_ n3_ n4_; clear ho hb hg hat))
              go_roundg k1
              case measure => have := HK1.out; omega
              case rel => exact ⟨(y200), (wrap64 (x6_1 + 1)), (t198), (by first | rfl | (simp; done) | (simp [*]; done)), H', ⟨by have := HK1.out; omega⟩, ⟨by (with_reducible repeat (first | apply Kd.R_alloc | apply Kd.R_drewN | apply Kd.R_drew)); exact HO202.out⟩, ⟨by repeat (first | (with_reducible first | exact HI0.out | apply IsS56.alloc | apply IsS56.drewN | apply IsS56.drew | apply IsS56.set_0) | exact HI0.out)⟩, ⟨by repeat (first | (with_reducible first | exact HK.out | apply KeepBut.set_ | apply keep_drewN | apply keep_drew | apply keep_alloc) | exact HK.out)⟩, ⟨by repeat (first | (with_reducible first | exact HB.out | apply below_alloc | apply pw_below_drewN | apply below_drew1 | refine below_set ?_ (IsS56.ge HI0.out)) | exact HB.out)⟩⟩
            · rw [if_neg c8] at H
              exact absurd H (by simp)
          · rw [if_neg c7] at H
            exact absurd H (by simp)
        · rw [if_neg c6] at H
          exact absurd H (by simp)
      · rw [if_neg c3] at H
        have c3b0 : decide (x6_1 < a1) = false := decide_eq_false c3
        clear c3
        simp only [Option.some.injEq, Prod.mk.injEq] at H
        obtain ⟨rfl, rfl⟩ := H
        go_wp2
        go_ret
        exact ⟨_, by first | rfl | (simp [errW_none, errW_some] <;> rfl) | (simp [*, errW_none, errW_some] <;> rfl), by (with_reducible repeat (first | apply Kd.R_alloc | apply Kd.R_drewN | apply Kd.R_drew)); exact HO_5.out, by repeat (first | (with_reducible first | exact HI0.out | apply IsS56.alloc | apply IsS56.drewN | apply IsS56.drew | apply IsS56.set_0) | exact HI0.out), by repeat (first | (with_reducible first | exact HB.out | apply below_alloc | apply pw_below_drewN | apply below_drew1 | refine below_set ?_ (IsS56.ge HI0.out)) | exact HB.out), by repeat (first | (with_reducible first | exact HK.out | apply KeepBut.set_ | apply keep_drewN | apply keep_drew | apply keep_alloc) | exact HK.out)⟩

end Go.Proofs.Ytempbcblakkjmaa.QR
