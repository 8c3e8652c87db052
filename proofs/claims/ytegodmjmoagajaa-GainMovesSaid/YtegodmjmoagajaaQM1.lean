-- Written by a program of this session, out of the seat's translation; checked by the kernel alone.
import Derived.Test.YtegodmjmoagajaaQM0
namespace Go.Proofs.Ytegodmjmoagajaa.QM
open Go.RowKit Go.Proofs.YtegodmjmoagajaaW.PrintWords Go.Proofs.YtegodmjmoagajaaW.PrintLast Go.Proofs.YtegodmjmoagajaaW.PrintMore
attribute [local go_sem] max2_int min2_int max_two min_two max_three min_three max_four min_four   -- for this text's walks alone
set_option linter.unusedVariables false
set_option linter.unusedSimpArgs false

/-! ### gain_is: function 36 -/
def gain_is.f (a0 : Int) : Option (Bool):=if a0 ≥ 0 then (some (decide (a0≤262144))) else (some false)
set_option maxHeartbeats 8000000 in
set_option maxRecDepth 100000 in
theorem gain_is.calls (a0 : Int) (r : Bool) (w : World) (h : gain_is.f a0=some r) :
  Calls Try.prog 36 #[.int .i64 a0] w fun e w'=>e = .returned (.bool r)∧Drawn0 w w':=by
 have H : (if a0 ≥ 0 then (some (decide (a0≤262144))) else (some false))=some r:=h
 clear h
 by_cases c2 : a0 ≥ 0
 ·rw [if_pos c2] at H
  have c2b0 : decide (0≤a0)=true:=decide_eq_true c2
  clear c2
  obtain rfl:=Option.some.inj H
  go_enter Try.func36,Try.ntmps36
  go_wp2
  go_ret
  exact ⟨by first|rfl|(simp;done)|(simp [*];done),by repeat (first|exact Drawn0.refl _|apply Drawn0.step)⟩
 rw [if_neg c2] at H
 have c2b0 : decide (0≤a0)=false:=decide_eq_false c2
 clear c2
 obtain rfl:=Option.some.inj H
 go_enter Try.func36,Try.ntmps36
 go_wp2
 go_ret
 exact ⟨by first|rfl|(simp;done)|(simp [*];done),by repeat (first|exact Drawn0.refl _|apply Drawn0.step)⟩

/-! ### sample_Sat: function 37 -/
def sample_Sat.f (a0 : Int) : Option (Int):=some (mx (-8388608) (mn 8388607 a0))
set_option maxHeartbeats 8000000 in
set_option maxRecDepth 100000 in
theorem sample_Sat.calls (a0 : Int) (r : Int) (w : World) (h : sample_Sat.f a0=some r) :
  Calls Try.prog 37 #[.int .i64 a0] w fun e w'=>e = .returned (.int .i32 r)∧Below w.heap.size w w':=by
 have HB:=Aside0.mk (Below.refl w.heap.size w)
 have H : (some (mx (-8388608) (mn 8388607 a0)))=some r:=h
 clear h
 obtain ⟨ji2,hji2⟩ : ∃ j_ : Int,(mn 8388607 a0)=j_:=⟨_,rfl⟩
 replace H : (some (mx (-8388608) (ji2)))=some r:=by first|(rw [hji2] at H;exact H)|(simp only [hji2] at H ⊢;exact H)
 (try (have hji2h : ji2≤8388607:=by (rw [← hji2];unfold mn;(repeat' split) <;> omega)))
 (try (have hji2g : ji2≤64:=by omega))
 have hji2_ : (if a0<8388607 then a0 else 8388607)=ji2:=hji2
 obtain ⟨ji3,hji3⟩ : ∃ j_ : Int,(mx (-8388608) (ji2))=j_:=⟨_,rfl⟩
 replace H : (some ji3)=some r:=by first|(rw [hji3] at H;exact H)|(simp only [hji3] at H ⊢;exact H)
 have hji3_ : (if (-8388608)<(ji2) then (ji2) else (-8388608))=ji3:=hji3
 obtain rfl:=Option.some.inj H
 go_enter Try.func37,Try.ntmps37
 go_wp2
 go_ret
 exact ⟨by first|rfl|(simp [errW_none,errW_some] <;> rfl)|(simp only [← hji2,← hji3];first|rfl|(simp [errW_none,errW_some] <;> rfl))|(simp [*,errW_none,errW_some] <;> rfl),zW HB⟩

/-! ### gain_Apply: function 14 -/
def gain_Apply.f (a0 : Int) (a1 : Int) : Option (Int):=if a0<(-8388608) then (some 0) else (if a0>8388607 then (some 0) else ((gain_is.f a1).bind fun t101=>(if t101=true then ((sample_Sat.f ((wrap64 ((wrap64 ((wrap64 (a0))*a1))+32768)) / 65536)).bind fun t102=>(some t102)) else (some 0))))
set_option maxHeartbeats 8000000 in
set_option maxRecDepth 100000 in
theorem gain_Apply.calls (a0 : Int) (a1 : Int) (r : Int) (w : World) (h : gain_Apply.f a0 a1=some r) :
  Calls Try.prog 14 #[.int .i32 a0,.int .i64 a1] w fun e w'=>e = .returned (.int .i32 r)∧Below w.heap.size w w':=by
 have HB:=Aside0.mk (Below.refl w.heap.size w)
 have H : (if a0<(-8388608) then (some 0) else (if a0>8388607 then (some 0) else ((gain_is.f a1).bind fun t101=>(if t101=true then ((sample_Sat.f ((wrap64 ((wrap64 ((wrap64 (a0))*a1))+32768)) / 65536)).bind fun t102=>(some t102)) else (some 0)))))=some r:=h
 clear h
 by_cases c3 : a0<(-8388608)
 ·rw [if_pos c3] at H
  have c3b0 : decide (a0<(-8388608))=true:=decide_eq_true c3
  clear c3
  obtain rfl:=Option.some.inj H
  go_enter Try.func14,Try.ntmps14
  go_wp2
  go_ret
  exact ⟨zX,zW HB⟩
 rw [if_neg c3] at H
 have c3b0 : decide (a0<(-8388608))=false:=decide_eq_false c3
 clear c3
 by_cases c4 : a0>8388607
 ·rw [if_pos c4] at H
  have c4b0 : decide (8388607<a0)=true:=decide_eq_true c4
  clear c4
  obtain rfl:=Option.some.inj H
  go_enter Try.func14,Try.ntmps14
  go_wp2
  go_ret
  exact ⟨zX,zW HB⟩
 rw [if_neg c4] at H
 have c4b0 : decide (8388607<a0)=false:=decide_eq_false c4
 clear c4
 replace H:=Option.bind_eq_some_iff.mp H
 obtain ⟨t101,A50,H⟩:=H
 replace H : (if t101=true then ((sample_Sat.f ((wrap64 ((wrap64 ((wrap64 (a0))*a1))+32768)) / 65536)).bind fun t102=>(some t102)) else (some 0))=some r:=H
 have A5:=Aside0.mk A50
 clear A50
 by_cases c6 : t101=true
 rotate_left
 ·replace c6:=Bool.eq_false_iff.mpr c6
  subst c6
  have H1 : (some 0)=some r:=by rw [if_neg (show ¬ (false=true) by decide)] at H;exact H
  clear H
  have H:=H1
  clear H1
  obtain rfl:=Option.some.inj H
  go_enter Try.func14,Try.ntmps14
  go_wp2_with (first|(go_at_call 36;(with_reducible refine (gain_is.calls a1 false _ A5.out).mono ?_);rintro e w' ⟨rfl,⟨nd,rfl⟩⟩))
  go_ret
  exact ⟨zX,zW HB⟩
 subst c6
 have H1 : ((sample_Sat.f ((wrap64 ((wrap64 ((wrap64 (a0))*a1))+32768)) / 65536)).bind fun t102=>(some t102))=some r:=by rw [if_pos rfl] at H;exact H
 clear H
 have H:=H1
 clear H1
 replace H:=Option.bind_eq_some_iff.mp H
 obtain ⟨t102,A70,H⟩:=H
 replace H : (some t102)=some r:=H
 have A7:=Aside0.mk A70
 clear A70
 obtain rfl:=Option.some.inj H
 go_enter Try.func14,Try.ntmps14
 go_wp2_with (first|(go_at_call 36;(with_reducible refine (gain_is.calls a1 true _ A5.out).mono ?_);rintro e w' ⟨rfl,⟨nd,rfl⟩⟩)|((with_reducible refine gate_callee (f:=37) rfl ?_);refine goesL_ (some 22) rfl rfl Try.func37 zk rfl #[.int .i64 ((wrap64 ((wrap64 ((wrap64 (a0))*a1))+32768)) / 65536)] rfl zA ?_;(with_reducible refine (sample_Sat.calls ((wrap64 ((wrap64 ((wrap64 (a0))*a1))+32768)) / 65536) t102 _ A7.out).mono ?_);rintro e w8 ⟨rfl,hb⟩;refine ⟨_,rfl,?_⟩;replace HB:=Aside0.mk (below_step (zW HB) hb);(try clear hb)))
 go_ret
 exact ⟨zX,zW HB⟩

/-! ### gain_Mul: function 16 -/
def gain_Mul.f (a0 : Int) (a1 : Int) : Option (Int):=(gain_is.f a0).bind fun t103=>(if t103=true then ((gain_is.f a1).bind fun t104=>(if t104=true then (some (mn 262144 ((wrap64 ((wrap64 (a0*a1))+32768)) / 65536))) else (some 0))) else (some 0))
set_option maxHeartbeats 8000000 in
set_option maxRecDepth 100000 in
theorem gain_Mul.calls (a0 : Int) (a1 : Int) (r : Int) (w : World) (h : gain_Mul.f a0 a1=some r) :
  Calls Try.prog 16 #[.int .i64 a0,.int .i64 a1] w fun e w'=>e = .returned (.int .i64 r)∧Below w.heap.size w w':=by
 have HB:=Aside0.mk (Below.refl w.heap.size w)
 have H : ((gain_is.f a0).bind fun t103=>(if t103=true then ((gain_is.f a1).bind fun t104=>(if t104=true then (some (mn 262144 ((wrap64 ((wrap64 (a0*a1))+32768)) / 65536))) else (some 0))) else (some 0)))=some r:=h
 clear h
 replace H:=Option.bind_eq_some_iff.mp H
 obtain ⟨t103,A30,H⟩:=H
 replace H : (if t103=true then ((gain_is.f a1).bind fun t104=>(if t104=true then (some (mn 262144 ((wrap64 ((wrap64 (a0*a1))+32768)) / 65536))) else (some 0))) else (some 0))=some r:=H
 have A3:=Aside0.mk A30
 clear A30
 by_cases c4 : t103=true
 rotate_left
 ·replace c4:=Bool.eq_false_iff.mpr c4
  subst c4
  have H1 : (some 0)=some r:=by rw [if_neg (show ¬ (false=true) by decide)] at H;exact H
  clear H
  have H:=H1
  clear H1
  obtain rfl:=Option.some.inj H
  go_enter Try.func16,Try.ntmps16
  go_wp2_with (first|((with_reducible refine gate_callee (f:=36) rfl ?_);refine goesL_ (some 6) rfl rfl Try.func36 zk rfl #[.int .i64 a0] rfl zA ?_;(with_reducible refine (gain_is.calls a0 false _ A3.out).mono ?_);rintro e w' ⟨rfl,⟨nd,rfl⟩⟩;refine ⟨_,rfl,?_⟩))
  go_ret
  exact ⟨zX,zW HB⟩
 subst c4
 have H1 : ((gain_is.f a1).bind fun t104=>(if t104=true then (some (mn 262144 ((wrap64 ((wrap64 (a0*a1))+32768)) / 65536))) else (some 0)))=some r:=by rw [if_pos rfl] at H;exact H
 clear H
 have H:=H1
 clear H1
 replace H:=Option.bind_eq_some_iff.mp H
 obtain ⟨t104,A50,H⟩:=H
 replace H : (if t104=true then (some (mn 262144 ((wrap64 ((wrap64 (a0*a1))+32768)) / 65536))) else (some 0))=some r:=H
 have A5:=Aside0.mk A50
 clear A50
 by_cases c6 : t104=true
 rotate_left
 ·replace c6:=Bool.eq_false_iff.mpr c6
  subst c6
  have H1 : (some 0)=some r:=by rw [if_neg (show ¬ (false=true) by decide)] at H;exact H
  clear H
  have H:=H1
  clear H1
  obtain rfl:=Option.some.inj H
  go_enter Try.func16,Try.ntmps16
  go_wp2_with (first|((with_reducible refine gate_callee (f:=36) rfl ?_);refine goesL_ (some 6) rfl rfl Try.func36 zk rfl #[.int .i64 a0] rfl zA ?_;(with_reducible refine (gain_is.calls a0 true _ A3.out).mono ?_);rintro e w' ⟨rfl,⟨nd,rfl⟩⟩;refine ⟨_,rfl,?_⟩)|(go_at_call 36;(with_reducible refine (gain_is.calls a1 false _ A5.out).mono ?_);rintro e w' ⟨rfl,⟨nd,rfl⟩⟩))
  go_ret
  exact ⟨zX,zW HB⟩
 subst c6
 have H1 : (some (mn 262144 ((wrap64 ((wrap64 (a0*a1))+32768)) / 65536)))=some r:=by rw [if_pos rfl] at H;exact H
 clear H
 have H:=H1
 clear H1
 obtain ⟨ji7,hji7⟩ : ∃ j_ : Int,(mn 262144 ((wrap64 ((wrap64 (a0*a1))+32768)) / 65536))=j_:=⟨_,rfl⟩
 replace H : (some ji7)=some r:=by first|(rw [hji7] at H;exact H)|(simp only [hji7] at H ⊢;exact H)
 (try rw [hji7] at A3)
 (try rw [hji7] at A5)
 (try (have hji7h : ji7≤262144:=by (rw [← hji7];unfold mn;(repeat' split) <;> omega)))
 (try (have hji7g : ji7≤64:=by omega))
 have hji7_ : (if ((wrap64 ((wrap64 (a0*a1))+32768)) / 65536)<262144 then ((wrap64 ((wrap64 (a0*a1))+32768)) / 65536) else 262144)=ji7:=hji7
 obtain rfl:=Option.some.inj H
 go_enter Try.func16,Try.ntmps16
 go_wp2_with (first|((with_reducible refine gate_callee (f:=36) rfl ?_);refine goesL_ (some 6) rfl rfl Try.func36 zk rfl #[.int .i64 a0] rfl zA ?_;(with_reducible refine (gain_is.calls a0 true _ A3.out).mono ?_);rintro e w' ⟨rfl,⟨nd,rfl⟩⟩;refine ⟨_,rfl,?_⟩)|(go_at_call 36;(with_reducible refine (gain_is.calls a1 true _ A5.out).mono ?_);rintro e w' ⟨rfl,⟨nd,rfl⟩⟩))
 go_ret
 exact ⟨by first|rfl|(simp [errW_none,errW_some] <;> rfl)|(simp only [← hji7];first|rfl|(simp [errW_none,errW_some] <;> rfl))|(simp [*,errW_none,errW_some] <;> rfl),zW HB⟩

/-! ### gain_Volume: function 18 -/
def gain_Volume.f (a0 : Int) : Option (Int):=some (wrap64 (Int.tdiv (wrap64 ((wrap64 ((wrap64 ((mx 0 (mn 100 a0))*(mx 0 (mn 100 a0))))*(mx 0 (mn 100 a0))))*65536)) 1000000))
set_option maxHeartbeats 8000000 in
set_option maxRecDepth 100000 in
theorem gain_Volume.calls (a0 : Int) (r : Int) (w : World) (h : gain_Volume.f a0=some r) :
  Calls Try.prog 18 #[.int .i64 a0] w fun e w'=>e = .returned (.int .i64 r)∧Below w.heap.size w w':=by
 have HB:=Aside0.mk (Below.refl w.heap.size w)
 have H : (some (wrap64 (Int.tdiv (wrap64 ((wrap64 ((wrap64 ((mx 0 (mn 100 a0))*(mx 0 (mn 100 a0))))*(mx 0 (mn 100 a0))))*65536)) 1000000)))=some r:=h
 clear h
 obtain ⟨ji2,hji2⟩ : ∃ j_ : Int,(mn 100 a0)=j_:=⟨_,rfl⟩
 replace H : (some (wrap64 (Int.tdiv (wrap64 ((wrap64 ((wrap64 ((mx 0 (ji2))*(mx 0 (ji2))))*(mx 0 (ji2))))*65536)) 1000000)))=some r:=by first|(rw [hji2] at H;exact H)|(simp only [hji2] at H ⊢;exact H)
 (try (have hji2h : ji2≤100:=by (rw [← hji2];unfold mn;(repeat' split) <;> omega)))
 (try (have hji2g : ji2≤64:=by omega))
 have hji2_ : (if a0<100 then a0 else 100)=ji2:=hji2
 obtain ⟨ji3,hji3⟩ : ∃ j_ : Int,(mx 0 (ji2))=j_:=⟨_,rfl⟩
 replace H : (some (wrap64 (Int.tdiv (wrap64 ((wrap64 ((wrap64 ((ji3)*(ji3)))*(ji3)))*65536)) 1000000)))=some r:=by first|(rw [hji3] at H;exact H)|(simp only [hji3] at H ⊢;exact H)
 have hji3_ : (if 0<(ji2) then (ji2) else 0)=ji3:=hji3
 obtain rfl:=Option.some.inj H
 go_enter Try.func18,Try.ntmps18
 go_wp2
 go_ret
 exact ⟨by first|rfl|(simp [errW_none,errW_some] <;> rfl)|(simp only [← hji2,← hji3];first|rfl|(simp [errW_none,errW_some] <;> rfl))|(simp [*,errW_none,errW_some] <;> rfl),zW HB⟩

/-! ### gain_slope_valid: function 39 -/
def gain_slope_valid.f (a0_0 : Int) (a0_1 : Int) (a0_2 : Int) (a0_3 : Int) : Option (Bool):=(gain_is.f a0_0).bind fun t106=>(if t106=true then ((gain_is.f a0_1).bind fun t107=>(if t107=true then (if a0_2 ≥ 0 then (if a0_2≤4194304 then (if a0_3 ≥ 0 then (some (decide (a0_3≤a0_2))) else (some false)) else (some false)) else (some false)) else (some false))) else (some false))
set_option maxHeartbeats 8000000 in
set_option maxRecDepth 100000 in
theorem gain_slope_valid.calls (a0_0 : Int) (a0_1 : Int) (a0_2 : Int) (a0_3 : Int) (r : Bool) (w : World) (h : gain_slope_valid.f a0_0 a0_1 a0_2 a0_3=some r) :
  Calls Try.prog 39 #[.agg #[.int .i64 a0_0,.int .i64 a0_1,.int .i64 a0_2,.int .i64 a0_3]] w fun e w'=>e = .returned (.bool r)∧Below w.heap.size w w':=by
 have hu67:=Try.underlying67
 have HB:=Aside0.mk (Below.refl w.heap.size w)
 have H : ((gain_is.f a0_0).bind fun t106=>(if t106=true then ((gain_is.f a0_1).bind fun t107=>(if t107=true then (if a0_2 ≥ 0 then (if a0_2≤4194304 then (if a0_3 ≥ 0 then (some (decide (a0_3≤a0_2))) else (some false)) else (some false)) else (some false)) else (some false))) else (some false)))=some r:=h
 clear h
 replace H:=Option.bind_eq_some_iff.mp H
 obtain ⟨t106,A20,H⟩:=H
 replace H : (if t106=true then ((gain_is.f a0_1).bind fun t107=>(if t107=true then (if a0_2 ≥ 0 then (if a0_2≤4194304 then (if a0_3 ≥ 0 then (some (decide (a0_3≤a0_2))) else (some false)) else (some false)) else (some false)) else (some false))) else (some false))=some r:=H
 have A2:=Aside0.mk A20
 clear A20
 by_cases c3 : t106=true
 rotate_left
 ·replace c3:=Bool.eq_false_iff.mpr c3
  subst c3
  have H1 : (some false)=some r:=by rw [if_neg (show ¬ (false=true) by decide)] at H;exact H
  clear H
  have H:=H1
  clear H1
  obtain rfl:=Option.some.inj H
  go_enter Try.func39,Try.ntmps39
  go_wp2_with (first|((with_reducible refine gate_dst (N:=1) rfl ?_);refine box_event ?hg (N:=1) ?hd (cs:=#[.int .i64 a0_0,.int .i64 a0_1,.int .i64 a0_2,.int .i64 a0_3]) (t:=67) ?hr ?_;(case hd=>rfl);(case hg=>rfl);(case hr=>first|(go_simp;done)|(go_simp;rfl));intro gb105 hg w19 hbox hb;have BK105:=Aside0.mk hbox;have GW105:=Aside0.mk (zS hg HB);have GE105:=Aside0.mk (zS hg HB);replace HB:=Aside0.mk (below_step (zW HB) hb);clear hb hbox hg;have hcz20_0:=zc BK105 0 (.int .i64 a0_0) rfl;have hcz20_1:=zc BK105 1 (.int .i64 a0_1) rfl;have hcz20_2:=zc BK105 2 (.int .i64 a0_2) rfl;have hcz20_3:=zc BK105 3 (.int .i64 a0_3) rfl;have hfz20_0:=blk_frozen BK105.out 0;have hfz20_1:=blk_frozen BK105.out 1;have hfz20_2:=blk_frozen BK105.out 2;have hfz20_3:=blk_frozen BK105.out 3)|((with_reducible refine gate_callee (f:=36) rfl ?_);refine goesL_ (some 6) rfl rfl Try.func36 zk rfl #[.int .i64 a0_0] rfl zA ?_;(with_reducible refine (gain_is.calls a0_0 false _ A2.out).mono ?_);rintro e w' ⟨rfl,⟨nd,rfl⟩⟩;refine ⟨_,rfl,?_⟩))
  go_ret
  exact ⟨zX,zW HB⟩
 subst c3
 have H1 : ((gain_is.f a0_1).bind fun t107=>(if t107=true then (if a0_2 ≥ 0 then (if a0_2≤4194304 then (if a0_3 ≥ 0 then (some (decide (a0_3≤a0_2))) else (some false)) else (some false)) else (some false)) else (some false)))=some r:=by rw [if_pos rfl] at H;exact H
 clear H
 have H:=H1
 clear H1
 replace H:=Option.bind_eq_some_iff.mp H
 obtain ⟨t107,A40,H⟩:=H
 replace H : (if t107=true then (if a0_2 ≥ 0 then (if a0_2≤4194304 then (if a0_3 ≥ 0 then (some (decide (a0_3≤a0_2))) else (some false)) else (some false)) else (some false)) else (some false))=some r:=H
 have A4:=Aside0.mk A40
 clear A40
 by_cases c5 : t107=true
 rotate_left
 ·replace c5:=Bool.eq_false_iff.mpr c5
  subst c5
  have H1 : (some false)=some r:=by rw [if_neg (show ¬ (false=true) by decide)] at H;exact H
  clear H
  have H:=H1
  clear H1
  obtain rfl:=Option.some.inj H
  go_enter Try.func39,Try.ntmps39
  go_wp2_with (first|((with_reducible refine gate_dst (N:=1) rfl ?_);refine box_event ?hg (N:=1) ?hd (cs:=#[.int .i64 a0_0,.int .i64 a0_1,.int .i64 a0_2,.int .i64 a0_3]) (t:=67) ?hr ?_;(case hd=>rfl);(case hg=>rfl);(case hr=>first|(go_simp;done)|(go_simp;rfl));intro gb105 hg w17 hbox hb;have BK105:=Aside0.mk hbox;have GW105:=Aside0.mk (zS hg HB);have GE105:=Aside0.mk (zS hg HB);replace HB:=Aside0.mk (below_step (zW HB) hb);clear hb hbox hg;have hcz18_0:=zc BK105 0 (.int .i64 a0_0) rfl;have hcz18_1:=zc BK105 1 (.int .i64 a0_1) rfl;have hcz18_2:=zc BK105 2 (.int .i64 a0_2) rfl;have hcz18_3:=zc BK105 3 (.int .i64 a0_3) rfl;have hfz18_0:=blk_frozen BK105.out 0;have hfz18_1:=blk_frozen BK105.out 1;have hfz18_2:=blk_frozen BK105.out 2;have hfz18_3:=blk_frozen BK105.out 3)|((with_reducible refine gate_callee (f:=36) rfl ?_);refine goesL_ (some 6) rfl rfl Try.func36 zk rfl #[.int .i64 a0_0] rfl zA ?_;(with_reducible refine (gain_is.calls a0_0 true _ A2.out).mono ?_);rintro e w' ⟨rfl,⟨nd,rfl⟩⟩;refine ⟨_,rfl,?_⟩)|(go_at_call 36;(with_reducible refine (gain_is.calls a0_1 false _ A4.out).mono ?_);rintro e w' ⟨rfl,⟨nd,rfl⟩⟩))
  go_ret
  exact ⟨zX,zW HB⟩
 subst c5
 have H1 : (if a0_2 ≥ 0 then (if a0_2≤4194304 then (if a0_3 ≥ 0 then (some (decide (a0_3≤a0_2))) else (some false)) else (some false)) else (some false))=some r:=by rw [if_pos rfl] at H;exact H
 clear H
 have H:=H1
 clear H1
 by_cases c6 : a0_2 ≥ 0
 rotate_left
 ·rw [if_neg c6] at H
  have c6b0 : decide (0≤a0_2)=false:=decide_eq_false c6
  clear c6
  obtain rfl:=Option.some.inj H
  go_enter Try.func39,Try.ntmps39
  go_wp2_with (first|((with_reducible refine gate_dst (N:=1) rfl ?_);refine box_event ?hg (N:=1) ?hd (cs:=#[.int .i64 a0_0,.int .i64 a0_1,.int .i64 a0_2,.int .i64 a0_3]) (t:=67) ?hr ?_;(case hd=>rfl);(case hg=>rfl);(case hr=>first|(go_simp;done)|(go_simp;rfl));intro gb105 hg w15 hbox hb;have BK105:=Aside0.mk hbox;have GW105:=Aside0.mk (zS hg HB);have GE105:=Aside0.mk (zS hg HB);replace HB:=Aside0.mk (below_step (zW HB) hb);clear hb hbox hg;have hcz16_0:=zc BK105 0 (.int .i64 a0_0) rfl;have hcz16_1:=zc BK105 1 (.int .i64 a0_1) rfl;have hcz16_2:=zc BK105 2 (.int .i64 a0_2) rfl;have hcz16_3:=zc BK105 3 (.int .i64 a0_3) rfl;have hfz16_0:=blk_frozen BK105.out 0;have hfz16_1:=blk_frozen BK105.out 1;have hfz16_2:=blk_frozen BK105.out 2;have hfz16_3:=blk_frozen BK105.out 3)|((with_reducible refine gate_callee (f:=36) rfl ?_);refine goesL_ (some 6) rfl rfl Try.func36 zk rfl #[.int .i64 a0_0] rfl zA ?_;(with_reducible refine (gain_is.calls a0_0 true _ A2.out).mono ?_);rintro e w' ⟨rfl,⟨nd,rfl⟩⟩;refine ⟨_,rfl,?_⟩)|(go_at_call 36;(with_reducible refine (gain_is.calls a0_1 true _ A4.out).mono ?_);rintro e w' ⟨rfl,⟨nd,rfl⟩⟩))
  go_ret
  exact ⟨zX,zW HB⟩
 rw [if_pos c6] at H
 have c6b0 : decide (0≤a0_2)=true:=decide_eq_true c6
 clear c6
 by_cases c7 : a0_2≤4194304
 rotate_left
 ·rw [if_neg c7] at H
  have c7b0 : decide (a0_2≤4194304)=false:=decide_eq_false c7
  clear c7
  obtain rfl:=Option.some.inj H
  go_enter Try.func39,Try.ntmps39
  go_wp2_with (first|((with_reducible refine gate_dst (N:=1) rfl ?_);refine box_event ?hg (N:=1) ?hd (cs:=#[.int .i64 a0_0,.int .i64 a0_1,.int .i64 a0_2,.int .i64 a0_3]) (t:=67) ?hr ?_;(case hd=>rfl);(case hg=>rfl);(case hr=>first|(go_simp;done)|(go_simp;rfl));intro gb105 hg w13 hbox hb;have BK105:=Aside0.mk hbox;have GW105:=Aside0.mk (zS hg HB);have GE105:=Aside0.mk (zS hg HB);replace HB:=Aside0.mk (below_step (zW HB) hb);clear hb hbox hg;have hcz14_0:=zc BK105 0 (.int .i64 a0_0) rfl;have hcz14_1:=zc BK105 1 (.int .i64 a0_1) rfl;have hcz14_2:=zc BK105 2 (.int .i64 a0_2) rfl;have hcz14_3:=zc BK105 3 (.int .i64 a0_3) rfl;have hfz14_0:=blk_frozen BK105.out 0;have hfz14_1:=blk_frozen BK105.out 1;have hfz14_2:=blk_frozen BK105.out 2;have hfz14_3:=blk_frozen BK105.out 3)|((with_reducible refine gate_callee (f:=36) rfl ?_);refine goesL_ (some 6) rfl rfl Try.func36 zk rfl #[.int .i64 a0_0] rfl zA ?_;(with_reducible refine (gain_is.calls a0_0 true _ A2.out).mono ?_);rintro e w' ⟨rfl,⟨nd,rfl⟩⟩;refine ⟨_,rfl,?_⟩)|(go_at_call 36;(with_reducible refine (gain_is.calls a0_1 true _ A4.out).mono ?_);rintro e w' ⟨rfl,⟨nd,rfl⟩⟩))
  go_ret
  exact ⟨zX,zW HB⟩
 rw [if_pos c7] at H
 have c7b0 : decide (a0_2≤4194304)=true:=decide_eq_true c7
 clear c7
 by_cases c8 : a0_3 ≥ 0
 ·rw [if_pos c8] at H
  have c8b0 : decide (0≤a0_3)=true:=decide_eq_true c8
  clear c8
  obtain rfl:=Option.some.inj H
  go_enter Try.func39,Try.ntmps39
  go_wp2_with (first|((with_reducible refine gate_dst (N:=1) rfl ?_);refine box_event ?hg (N:=1) ?hd (cs:=#[.int .i64 a0_0,.int .i64 a0_1,.int .i64 a0_2,.int .i64 a0_3]) (t:=67) ?hr ?_;(case hd=>rfl);(case hg=>rfl);(case hr=>first|(go_simp;done)|(go_simp;rfl));intro gb105 hg w9 hbox hb;have BK105:=Aside0.mk hbox;have GW105:=Aside0.mk (zS hg HB);have GE105:=Aside0.mk (zS hg HB);replace HB:=Aside0.mk (below_step (zW HB) hb);clear hb hbox hg;have hcz10_0:=zc BK105 0 (.int .i64 a0_0) rfl;have hcz10_1:=zc BK105 1 (.int .i64 a0_1) rfl;have hcz10_2:=zc BK105 2 (.int .i64 a0_2) rfl;have hcz10_3:=zc BK105 3 (.int .i64 a0_3) rfl;have hfz10_0:=blk_frozen BK105.out 0;have hfz10_1:=blk_frozen BK105.out 1;have hfz10_2:=blk_frozen BK105.out 2;have hfz10_3:=blk_frozen BK105.out 3)|((with_reducible refine gate_callee (f:=36) rfl ?_);refine goesL_ (some 6) rfl rfl Try.func36 zk rfl #[.int .i64 a0_0] rfl zA ?_;(with_reducible refine (gain_is.calls a0_0 true _ A2.out).mono ?_);rintro e w' ⟨rfl,⟨nd,rfl⟩⟩;refine ⟨_,rfl,?_⟩)|(go_at_call 36;(with_reducible refine (gain_is.calls a0_1 true _ A4.out).mono ?_);rintro e w' ⟨rfl,⟨nd,rfl⟩⟩))
  go_ret
  exact ⟨zX,zW HB⟩
 rw [if_neg c8] at H
 have c8b0 : decide (0≤a0_3)=false:=decide_eq_false c8
 clear c8
 obtain rfl:=Option.some.inj H
 go_enter Try.func39,Try.ntmps39
 go_wp2_with (first|((with_reducible refine gate_dst (N:=1) rfl ?_);refine box_event ?hg (N:=1) ?hd (cs:=#[.int .i64 a0_0,.int .i64 a0_1,.int .i64 a0_2,.int .i64 a0_3]) (t:=67) ?hr ?_;(case hd=>rfl);(case hg=>rfl);(case hr=>first|(go_simp;done)|(go_simp;rfl));intro gb105 hg w11 hbox hb;have BK105:=Aside0.mk hbox;have GW105:=Aside0.mk (zS hg HB);have GE105:=Aside0.mk (zS hg HB);replace HB:=Aside0.mk (below_step (zW HB) hb);clear hb hbox hg;have hcz12_0:=zc BK105 0 (.int .i64 a0_0) rfl;have hcz12_1:=zc BK105 1 (.int .i64 a0_1) rfl;have hcz12_2:=zc BK105 2 (.int .i64 a0_2) rfl;have hcz12_3:=zc BK105 3 (.int .i64 a0_3) rfl;have hfz12_0:=blk_frozen BK105.out 0;have hfz12_1:=blk_frozen BK105.out 1;have hfz12_2:=blk_frozen BK105.out 2;have hfz12_3:=blk_frozen BK105.out 3)|((with_reducible refine gate_callee (f:=36) rfl ?_);refine goesL_ (some 6) rfl rfl Try.func36 zk rfl #[.int .i64 a0_0] rfl zA ?_;(with_reducible refine (gain_is.calls a0_0 true _ A2.out).mono ?_);rintro e w' ⟨rfl,⟨nd,rfl⟩⟩;refine ⟨_,rfl,?_⟩)|(go_at_call 36;(with_reducible refine (gain_is.calls a0_1 true _ A4.out).mono ?_);rintro e w' ⟨rfl,⟨nd,rfl⟩⟩))
 go_ret
 exact ⟨zX,zW HB⟩

/-! ### gain_slope_gain: function 40 -/
def gain_slope_gain.f (a0_0 : Int) (a0_1 : Int) (a0_2 : Int) (a0_3 : Int) (a1 : Int) : Option (Int):=if a1 ≥ (wrap64 (a0_2 - a0_3)) then (some a0_1) else (if a0_2=0 then (none) else (if (Int.tmod (wrap64 ((wrap64 (a0_1 - a0_0))*(wrap64 (a0_3+a1)))) a0_2)<0 then (some (wrap64 (a0_0+(wrap64 ((wrap64 (Int.tdiv (wrap64 ((wrap64 (a0_1 - a0_0))*(wrap64 (a0_3+a1)))) a0_2)) - 1))))) else (some (wrap64 (a0_0+(wrap64 (Int.tdiv (wrap64 ((wrap64 (a0_1 - a0_0))*(wrap64 (a0_3+a1)))) a0_2)))))))
set_option maxHeartbeats 8000000 in
set_option maxRecDepth 100000 in
theorem gain_slope_gain.calls (a0_0 : Int) (a0_1 : Int) (a0_2 : Int) (a0_3 : Int) (a1 : Int) (r : Int) (w : World) (h : gain_slope_gain.f a0_0 a0_1 a0_2 a0_3 a1=some r) :
  Calls Try.prog 40 #[.agg #[.int .i64 a0_0,.int .i64 a0_1,.int .i64 a0_2,.int .i64 a0_3],.int .i64 a1] w fun e w'=>e = .returned (.int .i64 r)∧Below w.heap.size w w':=by
 have hu67:=Try.underlying67
 have HB:=Aside0.mk (Below.refl w.heap.size w)
 have H : (if a1 ≥ (wrap64 (a0_2 - a0_3)) then (some a0_1) else (if a0_2=0 then (none) else (if (Int.tmod (wrap64 ((wrap64 (a0_1 - a0_0))*(wrap64 (a0_3+a1)))) a0_2)<0 then (some (wrap64 (a0_0+(wrap64 ((wrap64 (Int.tdiv (wrap64 ((wrap64 (a0_1 - a0_0))*(wrap64 (a0_3+a1)))) a0_2)) - 1))))) else (some (wrap64 (a0_0+(wrap64 (Int.tdiv (wrap64 ((wrap64 (a0_1 - a0_0))*(wrap64 (a0_3+a1)))) a0_2))))))))=some r:=h
 clear h
 by_cases c3 : a1 ≥ (wrap64 (a0_2 - a0_3))
 ·rw [if_pos c3] at H
  have c3b0 : decide ((wrap64 (a0_2 - a0_3))≤a1)=true:=decide_eq_true c3
  clear c3
  obtain rfl:=Option.some.inj H
  go_enter Try.func40,Try.ntmps40
  go_wp2_with (first|((with_reducible refine gate_dst (N:=2) rfl ?_);refine box_event ?hg (N:=2) ?hd (cs:=#[.int .i64 a0_0,.int .i64 a0_1,.int .i64 a0_2,.int .i64 a0_3]) (t:=67) ?hr ?_;(case hd=>rfl);(case hg=>rfl);(case hr=>first|(go_simp;done)|(go_simp;rfl));intro gb108 hg w4 hbox hb;have BK108:=Aside0.mk hbox;have GW108:=Aside0.mk (zS hg HB);have GE108:=Aside0.mk (zS hg HB);replace HB:=Aside0.mk (below_step (zW HB) hb);clear hb hbox hg;have hcz5_0:=zc BK108 0 (.int .i64 a0_0) rfl;have hcz5_1:=zc BK108 1 (.int .i64 a0_1) rfl;have hcz5_2:=zc BK108 2 (.int .i64 a0_2) rfl;have hcz5_3:=zc BK108 3 (.int .i64 a0_3) rfl;have hfz5_0:=blk_frozen BK108.out 0;have hfz5_1:=blk_frozen BK108.out 1;have hfz5_2:=blk_frozen BK108.out 2;have hfz5_3:=blk_frozen BK108.out 3))
  go_ret
  exact ⟨zX,zW HB⟩
 rw [if_neg c3] at H
 have c3b0 : decide ((wrap64 (a0_2 - a0_3))≤a1)=false:=decide_eq_false c3
 clear c3
 by_cases c6 : a0_2=0
 ·rw [if_pos c6] at H
  exact absurd H (by simp)
 rw [if_neg c6] at H
 have c6b0 : (a0_2 == 0)=false:=beq_eq_false_iff_ne.mpr c6
 have c6b1 : (a0_2 != 0)=true:=bne_iff_ne.mpr c6
 by_cases c7 : (Int.tmod (wrap64 ((wrap64 (a0_1 - a0_0))*(wrap64 (a0_3+a1)))) a0_2)<0
 ·rw [if_pos c7] at H
  have c7b0 : decide ((Int.tmod (wrap64 ((wrap64 (a0_1 - a0_0))*(wrap64 (a0_3+a1)))) a0_2)<0)=true:=decide_eq_true c7
  clear c7
  obtain rfl:=Option.some.inj H
  go_enter Try.func40,Try.ntmps40
  go_wp2_with (first|((with_reducible refine gate_dst (N:=2) rfl ?_);refine box_event ?hg (N:=2) ?hd (cs:=#[.int .i64 a0_0,.int .i64 a0_1,.int .i64 a0_2,.int .i64 a0_3]) (t:=67) ?hr ?_;(case hd=>rfl);(case hg=>rfl);(case hr=>first|(go_simp;done)|(go_simp;rfl));intro gb108 hg w8 hbox hb;have BK108:=Aside0.mk hbox;have GW108:=Aside0.mk (zS hg HB);have GE108:=Aside0.mk (zS hg HB);replace HB:=Aside0.mk (below_step (zW HB) hb);clear hb hbox hg;have hcz9_0:=zc BK108 0 (.int .i64 a0_0) rfl;have hcz9_1:=zc BK108 1 (.int .i64 a0_1) rfl;have hcz9_2:=zc BK108 2 (.int .i64 a0_2) rfl;have hcz9_3:=zc BK108 3 (.int .i64 a0_3) rfl;have hfz9_0:=blk_frozen BK108.out 0;have hfz9_1:=blk_frozen BK108.out 1;have hfz9_2:=blk_frozen BK108.out 2;have hfz9_3:=blk_frozen BK108.out 3))
  go_ret
  exact ⟨zX,zW HB⟩
 rw [if_neg c7] at H
 have c7b0 : decide ((Int.tmod (wrap64 ((wrap64 (a0_1 - a0_0))*(wrap64 (a0_3+a1)))) a0_2)<0)=false:=decide_eq_false c7
 clear c7
 obtain rfl:=Option.some.inj H
 go_enter Try.func40,Try.ntmps40
 go_wp2_with (first|((with_reducible refine gate_dst (N:=2) rfl ?_);refine box_event ?hg (N:=2) ?hd (cs:=#[.int .i64 a0_0,.int .i64 a0_1,.int .i64 a0_2,.int .i64 a0_3]) (t:=67) ?hr ?_;(case hd=>rfl);(case hg=>rfl);(case hr=>first|(go_simp;done)|(go_simp;rfl));intro gb108 hg w10 hbox hb;have BK108:=Aside0.mk hbox;have GW108:=Aside0.mk (zS hg HB);have GE108:=Aside0.mk (zS hg HB);replace HB:=Aside0.mk (below_step (zW HB) hb);clear hb hbox hg;have hcz11_0:=zc BK108 0 (.int .i64 a0_0) rfl;have hcz11_1:=zc BK108 1 (.int .i64 a0_1) rfl;have hcz11_2:=zc BK108 2 (.int .i64 a0_2) rfl;have hcz11_3:=zc BK108 3 (.int .i64 a0_3) rfl;have hfz11_0:=blk_frozen BK108.out 0;have hfz11_1:=blk_frozen BK108.out 1;have hfz11_2:=blk_frozen BK108.out 2;have hfz11_3:=blk_frozen BK108.out 3))
 go_ret
 exact ⟨zX,zW HB⟩

/-! ### gain_At: function 22 -/
def gain_At.f (a0_0 : Int) (a0_1 : Int) (a0_2 : Int) (a0_3 : Int) (a1 : Int) : Option (Int):=(gain_slope_valid.f a0_0 a0_1 a0_2 a0_3).bind fun t111=>(if t111=true then (if a1<0 then (some 0) else ((gain_slope_gain.f a0_0 a0_1 a0_2 a0_3 a1).bind fun t112=>(some t112))) else (some 0))
set_option maxHeartbeats 8000000 in
set_option maxRecDepth 100000 in
theorem gain_At.calls (a0_0 : Int) (a0_1 : Int) (a0_2 : Int) (a0_3 : Int) (a1 : Int) (r : Int) (w : World) (h : gain_At.f a0_0 a0_1 a0_2 a0_3 a1=some r) :
  Calls Try.prog 22 #[.agg #[.int .i64 a0_0,.int .i64 a0_1,.int .i64 a0_2,.int .i64 a0_3],.int .i64 a1] w fun e w'=>e = .returned (.int .i64 r)∧Below w.heap.size w w':=by
 have hu35:=Try.underlying35
 have hu67:=Try.underlying67
 have HB:=Aside0.mk (Below.refl w.heap.size w)
 have H : ((gain_slope_valid.f a0_0 a0_1 a0_2 a0_3).bind fun t111=>(if t111=true then (if a1<0 then (some 0) else ((gain_slope_gain.f a0_0 a0_1 a0_2 a0_3 a1).bind fun t112=>(some t112))) else (some 0)))=some r:=h
 clear h
 replace H:=Option.bind_eq_some_iff.mp H
 obtain ⟨t111,A30,H⟩:=H
 replace H : (if t111=true then (if a1<0 then (some 0) else ((gain_slope_gain.f a0_0 a0_1 a0_2 a0_3 a1).bind fun t112=>(some t112))) else (some 0))=some r:=H
 have A3:=Aside0.mk A30
 clear A30
 by_cases c4 : t111=true
 rotate_left
 ·replace c4:=Bool.eq_false_iff.mpr c4
  subst c4
  have H1 : (some 0)=some r:=by rw [if_neg (show ¬ (false=true) by decide)] at H;exact H
  clear H
  have H:=H1
  clear H1
  obtain rfl:=Option.some.inj H
  go_enter Try.func22,Try.ntmps22
  go_wp2_with (first|((with_reducible refine gate_dst (N:=2) rfl ?_);refine box_event ?hg (N:=2) ?hd (cs:=#[.int .i64 a0_0,.int .i64 a0_1,.int .i64 a0_2,.int .i64 a0_3]) (t:=35) ?hr ?_;(case hd=>rfl);(case hg=>rfl);(case hr=>first|(go_simp;done)|(go_simp;rfl));intro gb109 hg w21 hbox hb;have BK109:=Aside0.mk hbox;have GW109:=Aside0.mk (zS hg HB);have GE109:=Aside0.mk (zS hg HB);replace HB:=Aside0.mk (below_step (zW HB) hb);clear hb hbox hg;have hcz22_0:=zc BK109 0 (.int .i64 a0_0) rfl;have hcz22_1:=zc BK109 1 (.int .i64 a0_1) rfl;have hcz22_2:=zc BK109 2 (.int .i64 a0_2) rfl;have hcz22_3:=zc BK109 3 (.int .i64 a0_3) rfl;have hfz22_0:=blk_frozen BK109.out 0;have hfz22_1:=blk_frozen BK109.out 1;have hfz22_2:=blk_frozen BK109.out 2;have hfz22_3:=blk_frozen BK109.out 3)|((with_reducible refine gate_dst (N:=5) rfl ?_);refine box_event ?hg (N:=5) ?hd (cs:=#[.int .i64 0,.int .i64 0,.int .i64 0,.int .i64 0]) (t:=67) ?hr ?_;(case hd=>rfl);(case hg=>rfl);(case hr=>first|(go_simp;done)|(go_simp;rfl));intro gb110 hg w23 hbox hb;have BK110:=Aside0.mk hbox;have GW110:=Aside0.mk (zS hg HB);have GE110:=Aside0.mk (zS hg HB);replace HB:=Aside0.mk (below_step (zW HB) hb);have NB109_110:=Aside0.mk (zL hg BK109);have NB110_109:=Aside0.mk (zG hg BK109);replace BK109:=Aside0.mk (blk_below (zB BK109) hb);clear hb hbox hg;have hnb24:=NB110_109.out;have hnc24:=NB109_110.out;have hcz25_0:=zc BK110 0 (.int .i64 0) rfl;have hcz25_1:=zc BK110 1 (.int .i64 0) rfl;have hcz25_2:=zc BK110 2 (.int .i64 0) rfl;have hcz25_3:=zc BK110 3 (.int .i64 0) rfl;have hfz25_0:=blk_frozen BK110.out 0;have hfz25_1:=blk_frozen BK110.out 1;have hfz25_2:=blk_frozen BK110.out 2;have hfz25_3:=blk_frozen BK110.out 3)|((with_reducible refine gate_callee (f:=39) rfl ?_);refine goesL_ (some 9) rfl rfl Try.func39 zk rfl #[.agg #[.int .i64 a0_0,.int .i64 a0_1,.int .i64 a0_2,.int .i64 a0_3]] rfl zA ?_;(with_reducible refine (gain_slope_valid.calls a0_0 a0_1 a0_2 a0_3 false _ A3.out).mono ?_);rintro e w26 ⟨rfl,hb⟩;refine ⟨_,rfl,?_⟩;replace BK109:=Aside0.mk (blk_below (zB BK109) hb);replace BK110:=Aside0.mk (blk_below (g:=gb110) (o:=.cells #[.int .i64 a0_0,.int .i64 a0_1,.int .i64 a0_2,.int .i64 a0_3] 67 (0,0)) (zB BK110) hb);replace HB:=Aside0.mk (below_step (zW HB) hb);(try clear hb)))
  go_ret
  exact ⟨zX,zW HB⟩
 subst c4
 have H1 : (if a1<0 then (some 0) else ((gain_slope_gain.f a0_0 a0_1 a0_2 a0_3 a1).bind fun t112=>(some t112)))=some r:=by rw [if_pos rfl] at H;exact H
 clear H
 have H:=H1
 clear H1
 by_cases c5 : a1<0
 ·rw [if_pos c5] at H
  have c5b0 : decide (a1<0)=true:=decide_eq_true c5
  clear c5
  obtain rfl:=Option.some.inj H
  go_enter Try.func22,Try.ntmps22
  go_wp2_with (first|((with_reducible refine gate_dst (N:=2) rfl ?_);refine box_event ?hg (N:=2) ?hd (cs:=#[.int .i64 a0_0,.int .i64 a0_1,.int .i64 a0_2,.int .i64 a0_3]) (t:=35) ?hr ?_;(case hd=>rfl);(case hg=>rfl);(case hr=>first|(go_simp;done)|(go_simp;rfl));intro gb109 hg w6 hbox hb;have BK109:=Aside0.mk hbox;have GW109:=Aside0.mk (zS hg HB);have GE109:=Aside0.mk (zS hg HB);replace HB:=Aside0.mk (below_step (zW HB) hb);clear hb hbox hg;have hcz7_0:=zc BK109 0 (.int .i64 a0_0) rfl;have hcz7_1:=zc BK109 1 (.int .i64 a0_1) rfl;have hcz7_2:=zc BK109 2 (.int .i64 a0_2) rfl;have hcz7_3:=zc BK109 3 (.int .i64 a0_3) rfl;have hfz7_0:=blk_frozen BK109.out 0;have hfz7_1:=blk_frozen BK109.out 1;have hfz7_2:=blk_frozen BK109.out 2;have hfz7_3:=blk_frozen BK109.out 3)|((with_reducible refine gate_dst (N:=5) rfl ?_);refine box_event ?hg (N:=5) ?hd (cs:=#[.int .i64 0,.int .i64 0,.int .i64 0,.int .i64 0]) (t:=67) ?hr ?_;(case hd=>rfl);(case hg=>rfl);(case hr=>first|(go_simp;done)|(go_simp;rfl));intro gb110 hg w8 hbox hb;have BK110:=Aside0.mk hbox;have GW110:=Aside0.mk (zS hg HB);have GE110:=Aside0.mk (zS hg HB);replace HB:=Aside0.mk (below_step (zW HB) hb);have NB109_110:=Aside0.mk (zL hg BK109);have NB110_109:=Aside0.mk (zG hg BK109);replace BK109:=Aside0.mk (blk_below (zB BK109) hb);clear hb hbox hg;have hnb9:=NB110_109.out;have hnc9:=NB109_110.out;have hcz10_0:=zc BK110 0 (.int .i64 0) rfl;have hcz10_1:=zc BK110 1 (.int .i64 0) rfl;have hcz10_2:=zc BK110 2 (.int .i64 0) rfl;have hcz10_3:=zc BK110 3 (.int .i64 0) rfl;have hfz10_0:=blk_frozen BK110.out 0;have hfz10_1:=blk_frozen BK110.out 1;have hfz10_2:=blk_frozen BK110.out 2;have hfz10_3:=blk_frozen BK110.out 3)|((with_reducible refine gate_callee (f:=39) rfl ?_);refine goesL_ (some 9) rfl rfl Try.func39 zk rfl #[.agg #[.int .i64 a0_0,.int .i64 a0_1,.int .i64 a0_2,.int .i64 a0_3]] rfl zA ?_;(with_reducible refine (gain_slope_valid.calls a0_0 a0_1 a0_2 a0_3 true _ A3.out).mono ?_);rintro e w11 ⟨rfl,hb⟩;refine ⟨_,rfl,?_⟩;replace BK109:=Aside0.mk (blk_below (zB BK109) hb);replace BK110:=Aside0.mk (blk_below (g:=gb110) (o:=.cells #[.int .i64 a0_0,.int .i64 a0_1,.int .i64 a0_2,.int .i64 a0_3] 67 (0,0)) (zB BK110) hb);replace HB:=Aside0.mk (below_step (zW HB) hb);(try clear hb)))
  go_ret
  exact ⟨zX,zW HB⟩
 rw [if_neg c5] at H
 have c5b0 : decide (a1<0)=false:=decide_eq_false c5
 clear c5
 replace H:=Option.bind_eq_some_iff.mp H
 obtain ⟨t112,A120,H⟩:=H
 replace H : (some t112)=some r:=H
 have A12:=Aside0.mk A120
 clear A120
 obtain rfl:=Option.some.inj H
 go_enter Try.func22,Try.ntmps22
 go_wp2_with (first|((with_reducible refine gate_dst (N:=2) rfl ?_);refine box_event ?hg (N:=2) ?hd (cs:=#[.int .i64 a0_0,.int .i64 a0_1,.int .i64 a0_2,.int .i64 a0_3]) (t:=35) ?hr ?_;(case hd=>rfl);(case hg=>rfl);(case hr=>first|(go_simp;done)|(go_simp;rfl));intro gb109 hg w13 hbox hb;have BK109:=Aside0.mk hbox;have GW109:=Aside0.mk (zS hg HB);have GE109:=Aside0.mk (zS hg HB);replace HB:=Aside0.mk (below_step (zW HB) hb);clear hb hbox hg;have hcz14_0:=zc BK109 0 (.int .i64 a0_0) rfl;have hcz14_1:=zc BK109 1 (.int .i64 a0_1) rfl;have hcz14_2:=zc BK109 2 (.int .i64 a0_2) rfl;have hcz14_3:=zc BK109 3 (.int .i64 a0_3) rfl;have hfz14_0:=blk_frozen BK109.out 0;have hfz14_1:=blk_frozen BK109.out 1;have hfz14_2:=blk_frozen BK109.out 2;have hfz14_3:=blk_frozen BK109.out 3)|((with_reducible refine gate_dst (N:=5) rfl ?_);refine box_event ?hg (N:=5) ?hd (cs:=#[.int .i64 0,.int .i64 0,.int .i64 0,.int .i64 0]) (t:=67) ?hr ?_;(case hd=>rfl);(case hg=>rfl);(case hr=>first|(go_simp;done)|(go_simp;rfl));intro gb110 hg w15 hbox hb;have BK110:=Aside0.mk hbox;have GW110:=Aside0.mk (zS hg HB);have GE110:=Aside0.mk (zS hg HB);replace HB:=Aside0.mk (below_step (zW HB) hb);have NB109_110:=Aside0.mk (zL hg BK109);have NB110_109:=Aside0.mk (zG hg BK109);replace BK109:=Aside0.mk (blk_below (zB BK109) hb);clear hb hbox hg;have hnb16:=NB110_109.out;have hnc16:=NB109_110.out;have hcz17_0:=zc BK110 0 (.int .i64 0) rfl;have hcz17_1:=zc BK110 1 (.int .i64 0) rfl;have hcz17_2:=zc BK110 2 (.int .i64 0) rfl;have hcz17_3:=zc BK110 3 (.int .i64 0) rfl;have hfz17_0:=blk_frozen BK110.out 0;have hfz17_1:=blk_frozen BK110.out 1;have hfz17_2:=blk_frozen BK110.out 2;have hfz17_3:=blk_frozen BK110.out 3)|((with_reducible refine gate_callee (f:=39) rfl ?_);refine goesL_ (some 9) rfl rfl Try.func39 zk rfl #[.agg #[.int .i64 a0_0,.int .i64 a0_1,.int .i64 a0_2,.int .i64 a0_3]] rfl zA ?_;(with_reducible refine (gain_slope_valid.calls a0_0 a0_1 a0_2 a0_3 true _ A3.out).mono ?_);rintro e w18 ⟨rfl,hb⟩;refine ⟨_,rfl,?_⟩;replace BK109:=Aside0.mk (blk_below (zB BK109) hb);replace BK110:=Aside0.mk (blk_below (g:=gb110) (o:=.cells #[.int .i64 a0_0,.int .i64 a0_1,.int .i64 a0_2,.int .i64 a0_3] 67 (0,0)) (zB BK110) hb);replace HB:=Aside0.mk (below_step (zW HB) hb);(try clear hb);have hcz19_0:=zc BK110 0 (.int .i64 a0_0) rfl;have hcz19_1:=zc BK110 1 (.int .i64 a0_1) rfl;have hcz19_2:=zc BK110 2 (.int .i64 a0_2) rfl;have hcz19_3:=zc BK110 3 (.int .i64 a0_3) rfl;have hfz19_0:=blk_frozen BK110.out 0;have hfz19_1:=blk_frozen BK110.out 1;have hfz19_2:=blk_frozen BK110.out 2;have hfz19_3:=blk_frozen BK110.out 3)|((with_reducible refine gate_callee (f:=40) rfl ?_);refine goesL_ (some 17) rfl rfl Try.func40 zk rfl #[.agg #[.int .i64 a0_0,.int .i64 a0_1,.int .i64 a0_2,.int .i64 a0_3],.int .i64 a1] rfl zA ?_;(with_reducible refine (gain_slope_gain.calls a0_0 a0_1 a0_2 a0_3 a1 t112 _ A12.out).mono ?_);rintro e w20 ⟨rfl,hb⟩;refine ⟨_,rfl,?_⟩;replace BK109:=Aside0.mk (blk_below (zB BK109) hb);replace BK110:=Aside0.mk (blk_below (zB BK110) hb);replace HB:=Aside0.mk (below_step (zW HB) hb);(try clear hb)))
 go_ret
 exact ⟨zX,zW HB⟩

/-! ### gain_Valid: function 26 -/
def gain_Valid.f (a0_0 : Int) (a0_1 : Int) (a0_2 : Int) (a0_3 : Int) : Option (Bool):=(gain_slope_valid.f a0_0 a0_1 a0_2 a0_3).bind fun t114=>(some t114)
set_option maxHeartbeats 8000000 in
set_option maxRecDepth 100000 in
theorem gain_Valid.calls (a0_0 : Int) (a0_1 : Int) (a0_2 : Int) (a0_3 : Int) (r : Bool) (w : World) (h : gain_Valid.f a0_0 a0_1 a0_2 a0_3=some r) :
  Calls Try.prog 26 #[.agg #[.int .i64 a0_0,.int .i64 a0_1,.int .i64 a0_2,.int .i64 a0_3]] w fun e w'=>e = .returned (.bool r)∧Below w.heap.size w w':=by
 have hu35:=Try.underlying35
 have hu67:=Try.underlying67
 have HB:=Aside0.mk (Below.refl w.heap.size w)
 have H : ((gain_slope_valid.f a0_0 a0_1 a0_2 a0_3).bind fun t114=>(some t114))=some r:=h
 clear h
 replace H:=Option.bind_eq_some_iff.mp H
 obtain ⟨t114,A20,H⟩:=H
 replace H : (some t114)=some r:=H
 have A2:=Aside0.mk A20
 clear A20
 obtain rfl:=Option.some.inj H
 go_enter Try.func26,Try.ntmps26
 go_wp2_with (first|((with_reducible refine gate_dst (N:=1) rfl ?_);refine box_event ?hg (N:=1) ?hd (cs:=#[.int .i64 a0_0,.int .i64 a0_1,.int .i64 a0_2,.int .i64 a0_3]) (t:=35) ?hr ?_;(case hd=>rfl);(case hg=>rfl);(case hr=>first|(go_simp;done)|(go_simp;rfl));intro gb113 hg w3 hbox hb;have BK113:=Aside0.mk hbox;have GW113:=Aside0.mk (zS hg HB);have GE113:=Aside0.mk (zS hg HB);replace HB:=Aside0.mk (below_step (zW HB) hb);clear hb hbox hg;have hcz4_0:=zc BK113 0 (.int .i64 a0_0) rfl;have hcz4_1:=zc BK113 1 (.int .i64 a0_1) rfl;have hcz4_2:=zc BK113 2 (.int .i64 a0_2) rfl;have hcz4_3:=zc BK113 3 (.int .i64 a0_3) rfl;have hfz4_0:=blk_frozen BK113.out 0;have hfz4_1:=blk_frozen BK113.out 1;have hfz4_2:=blk_frozen BK113.out 2;have hfz4_3:=blk_frozen BK113.out 3)|((with_reducible refine gate_callee (f:=39) rfl ?_);refine goesL_ (some 5) rfl rfl Try.func39 zk rfl #[.agg #[.int .i64 a0_0,.int .i64 a0_1,.int .i64 a0_2,.int .i64 a0_3]] rfl zA ?_;(with_reducible refine (gain_slope_valid.calls a0_0 a0_1 a0_2 a0_3 t114 _ A2.out).mono ?_);rintro e w5 ⟨rfl,hb⟩;refine ⟨_,rfl,?_⟩;replace BK113:=Aside0.mk (blk_below (zB BK113) hb);replace HB:=Aside0.mk (below_step (zW HB) hb);(try clear hb)))
 go_ret
 exact ⟨zX,zW HB⟩

/-! ### soundservicelaw05_sane: function 12 -/
def soundservicelaw05_sane.f  : Option (Bool):=(gain_Volume.f 50).bind fun t116=>(if t116=8192 then ((gain_At.f 0 65536 4 0 1).bind fun t117=>(if t117=16384 then ((gain_At.f 0 65536 4 0 4).bind fun t118=>(if t118=65536 then ((gain_Apply.f 1000 32768).bind fun t119=>(if t119=500 then ((gain_Mul.f 65536 7).bind fun t120=>(if t120=7 then ((gain_Valid.f 0 65536 4 0).bind fun t121=>(some t121)) else (some false))) else (some false))) else (some false))) else (some false))) else (some false))
set_option maxHeartbeats 8000000 in
set_option maxRecDepth 100000 in
theorem soundservicelaw05_sane.calls  (r : Bool) (w : World) (h : soundservicelaw05_sane.f  = some r) :
  Calls Try.prog 12 #[] w fun e w'=>e = .returned (.bool r)∧Below w.heap.size w w':=by
 have hu35:=Try.underlying35
 have HB:=Aside0.mk (Below.refl w.heap.size w)
 have H : ((gain_Volume.f 50).bind fun t116=>(if t116=8192 then ((gain_At.f 0 65536 4 0 1).bind fun t117=>(if t117=16384 then ((gain_At.f 0 65536 4 0 4).bind fun t118=>(if t118=65536 then ((gain_Apply.f 1000 32768).bind fun t119=>(if t119=500 then ((gain_Mul.f 65536 7).bind fun t120=>(if t120=7 then ((gain_Valid.f 0 65536 4 0).bind fun t121=>(some t121)) else (some false))) else (some false))) else (some false))) else (some false))) else (some false)))=some r:=h
 clear h
 replace H:=Option.bind_eq_some_iff.mp H
 obtain ⟨t116,A10,H⟩:=H
 replace H : (if t116=8192 then ((gain_At.f 0 65536 4 0 1).bind fun t117=>(if t117=16384 then ((gain_At.f 0 65536 4 0 4).bind fun t118=>(if t118=65536 then ((gain_Apply.f 1000 32768).bind fun t119=>(if t119=500 then ((gain_Mul.f 65536 7).bind fun t120=>(if t120=7 then ((gain_Valid.f 0 65536 4 0).bind fun t121=>(some t121)) else (some false))) else (some false))) else (some false))) else (some false))) else (some false))=some r:=H
 have A1:=Aside0.mk A10
 clear A10
 by_cases c2 : t116=8192
 rotate_left
 ·rw [if_neg c2] at H
  have c2b0 : (t116 == 8192)=false:=beq_eq_false_iff_ne.mpr c2
  have c2b1 : (t116 != 8192)=true:=bne_iff_ne.mpr c2
  obtain rfl:=Option.some.inj H
  go_enter Try.func12,Try.ntmps12
  go_wp2_with (first|((with_reducible refine gate_dst (N:=1) rfl ?_);refine box_event ?hg (N:=1) ?hd (cs:=#[.int .i64 0,.int .i64 0,.int .i64 0,.int .i64 0]) (t:=35) ?hr ?_;(case hd=>rfl);(case hg=>rfl);(case hr=>first|(go_simp;done)|(go_simp;rfl));intro gb115 hg w52 hbox hb;have BK115:=Aside0.mk hbox;have GW115:=Aside0.mk (zS hg HB);have GE115:=Aside0.mk (zS hg HB);replace HB:=Aside0.mk (below_step (zW HB) hb);clear hb hbox hg;have hcz53_0:=zc BK115 0 (.int .i64 0) rfl;have hcz53_1:=zc BK115 1 (.int .i64 0) rfl;have hcz53_2:=zc BK115 2 (.int .i64 0) rfl;have hcz53_3:=zc BK115 3 (.int .i64 0) rfl;have hfz53_0:=blk_frozen BK115.out 0;have hfz53_1:=blk_frozen BK115.out 1;have hfz53_2:=blk_frozen BK115.out 2;have hfz53_3:=blk_frozen BK115.out 3)|((with_reducible refine gate_callee (f:=18) rfl ?_);refine goesL_ (some 3) rfl rfl Try.func18 zk rfl #[.int .i64 50] rfl zA ?_;(with_reducible refine (gain_Volume.calls 50 t116 _ A1.out).mono ?_);rintro e w54 ⟨rfl,hb⟩;refine ⟨_,rfl,?_⟩;replace BK115:=Aside0.mk (blk_below (g:=gb115) (o:=.cells #[.int .i64 0,.int .i64 65536,.int .i64 4,.int .i64 0] 35 (0,0)) (zB BK115) hb);replace HB:=Aside0.mk (below_step (zW HB) hb);(try clear hb)))
  go_ret
  exact ⟨zX,zW HB⟩
 rw [if_pos c2] at H
 have c2b0 : (t116 == 8192)=true:=beq_iff_eq.mpr c2
 have c2b1 : (t116 != 8192)=false:=bne_eq_false_iff_eq.mpr c2
 clear c2
 replace H:=Option.bind_eq_some_iff.mp H
 obtain ⟨t117,A30,H⟩:=H
 replace H : (if t117=16384 then ((gain_At.f 0 65536 4 0 4).bind fun t118=>(if t118=65536 then ((gain_Apply.f 1000 32768).bind fun t119=>(if t119=500 then ((gain_Mul.f 65536 7).bind fun t120=>(if t120=7 then ((gain_Valid.f 0 65536 4 0).bind fun t121=>(some t121)) else (some false))) else (some false))) else (some false))) else (some false))=some r:=H
 have A3:=Aside0.mk A30
 clear A30
 by_cases c4 : t117=16384
 rotate_left
 ·rw [if_neg c4] at H
  have c4b0 : (t117 == 16384)=false:=beq_eq_false_iff_ne.mpr c4
  have c4b1 : (t117 != 16384)=true:=bne_iff_ne.mpr c4
  obtain rfl:=Option.some.inj H
  go_enter Try.func12,Try.ntmps12
  go_wp2_with (first|((with_reducible refine gate_dst (N:=1) rfl ?_);refine box_event ?hg (N:=1) ?hd (cs:=#[.int .i64 0,.int .i64 0,.int .i64 0,.int .i64 0]) (t:=35) ?hr ?_;(case hd=>rfl);(case hg=>rfl);(case hr=>first|(go_simp;done)|(go_simp;rfl));intro gb115 hg w47 hbox hb;have BK115:=Aside0.mk hbox;have GW115:=Aside0.mk (zS hg HB);have GE115:=Aside0.mk (zS hg HB);replace HB:=Aside0.mk (below_step (zW HB) hb);clear hb hbox hg;have hcz48_0:=zc BK115 0 (.int .i64 0) rfl;have hcz48_1:=zc BK115 1 (.int .i64 0) rfl;have hcz48_2:=zc BK115 2 (.int .i64 0) rfl;have hcz48_3:=zc BK115 3 (.int .i64 0) rfl;have hfz48_0:=blk_frozen BK115.out 0;have hfz48_1:=blk_frozen BK115.out 1;have hfz48_2:=blk_frozen BK115.out 2;have hfz48_3:=blk_frozen BK115.out 3)|((with_reducible refine gate_callee (f:=18) rfl ?_);refine goesL_ (some 3) rfl rfl Try.func18 zk rfl #[.int .i64 50] rfl zA ?_;(with_reducible refine (gain_Volume.calls 50 t116 _ A1.out).mono ?_);rintro e w49 ⟨rfl,hb⟩;refine ⟨_,rfl,?_⟩;replace BK115:=Aside0.mk (blk_below (g:=gb115) (o:=.cells #[.int .i64 0,.int .i64 65536,.int .i64 4,.int .i64 0] 35 (0,0)) (zB BK115) hb);replace HB:=Aside0.mk (below_step (zW HB) hb);(try clear hb);have hcz50_0:=zc BK115 0 (.int .i64 0) rfl;have hcz50_1:=zc BK115 1 (.int .i64 65536) rfl;have hcz50_2:=zc BK115 2 (.int .i64 4) rfl;have hcz50_3:=zc BK115 3 (.int .i64 0) rfl;have hfz50_0:=blk_frozen BK115.out 0;have hfz50_1:=blk_frozen BK115.out 1;have hfz50_2:=blk_frozen BK115.out 2;have hfz50_3:=blk_frozen BK115.out 3)|(go_at_call 22;(with_reducible refine (gain_At.calls 0 65536 4 0 1 t117 _ A3.out).mono ?_);rintro e w51 ⟨rfl,hb⟩;replace BK115:=Aside0.mk (blk_below (zB BK115) hb);replace HB:=Aside0.mk (below_step (zW HB) hb);(try clear hb)))
  go_ret
  exact ⟨zX,zW HB⟩
 rw [if_pos c4] at H
 have c4b0 : (t117 == 16384)=true:=beq_iff_eq.mpr c4
 have c4b1 : (t117 != 16384)=false:=bne_eq_false_iff_eq.mpr c4
 clear c4
 replace H:=Option.bind_eq_some_iff.mp H
 obtain ⟨t118,A50,H⟩:=H
 replace H : (if t118=65536 then ((gain_Apply.f 1000 32768).bind fun t119=>(if t119=500 then ((gain_Mul.f 65536 7).bind fun t120=>(if t120=7 then ((gain_Valid.f 0 65536 4 0).bind fun t121=>(some t121)) else (some false))) else (some false))) else (some false))=some r:=H
 have A5:=Aside0.mk A50
 clear A50
 by_cases c6 : t118=65536
 rotate_left
 ·rw [if_neg c6] at H
  have c6b0 : (t118 == 65536)=false:=beq_eq_false_iff_ne.mpr c6
  have c6b1 : (t118 != 65536)=true:=bne_iff_ne.mpr c6
  obtain rfl:=Option.some.inj H
  go_enter Try.func12,Try.ntmps12
  go_wp2_with (first|((with_reducible refine gate_dst (N:=1) rfl ?_);refine box_event ?hg (N:=1) ?hd (cs:=#[.int .i64 0,.int .i64 0,.int .i64 0,.int .i64 0]) (t:=35) ?hr ?_;(case hd=>rfl);(case hg=>rfl);(case hr=>first|(go_simp;done)|(go_simp;rfl));intro gb115 hg w40 hbox hb;have BK115:=Aside0.mk hbox;have GW115:=Aside0.mk (zS hg HB);have GE115:=Aside0.mk (zS hg HB);replace HB:=Aside0.mk (below_step (zW HB) hb);clear hb hbox hg;have hcz41_0:=zc BK115 0 (.int .i64 0) rfl;have hcz41_1:=zc BK115 1 (.int .i64 0) rfl;have hcz41_2:=zc BK115 2 (.int .i64 0) rfl;have hcz41_3:=zc BK115 3 (.int .i64 0) rfl;have hfz41_0:=blk_frozen BK115.out 0;have hfz41_1:=blk_frozen BK115.out 1;have hfz41_2:=blk_frozen BK115.out 2;have hfz41_3:=blk_frozen BK115.out 3)|((with_reducible refine gate_callee (f:=18) rfl ?_);refine goesL_ (some 3) rfl rfl Try.func18 zk rfl #[.int .i64 50] rfl zA ?_;(with_reducible refine (gain_Volume.calls 50 t116 _ A1.out).mono ?_);rintro e w42 ⟨rfl,hb⟩;refine ⟨_,rfl,?_⟩;replace BK115:=Aside0.mk (blk_below (g:=gb115) (o:=.cells #[.int .i64 0,.int .i64 65536,.int .i64 4,.int .i64 0] 35 (0,0)) (zB BK115) hb);replace HB:=Aside0.mk (below_step (zW HB) hb);(try clear hb);have hcz43_0:=zc BK115 0 (.int .i64 0) rfl;have hcz43_1:=zc BK115 1 (.int .i64 65536) rfl;have hcz43_2:=zc BK115 2 (.int .i64 4) rfl;have hcz43_3:=zc BK115 3 (.int .i64 0) rfl;have hfz43_0:=blk_frozen BK115.out 0;have hfz43_1:=blk_frozen BK115.out 1;have hfz43_2:=blk_frozen BK115.out 2;have hfz43_3:=blk_frozen BK115.out 3)|(go_at_call 22;(with_reducible refine (gain_At.calls 0 65536 4 0 1 t117 _ A3.out).mono ?_);rintro e w44 ⟨rfl,hb⟩;replace BK115:=Aside0.mk (blk_below (zB BK115) hb);replace HB:=Aside0.mk (below_step (zW HB) hb);(try clear hb);have hcz45_0:=zc BK115 0 (.int .i64 0) rfl;have hcz45_1:=zc BK115 1 (.int .i64 65536) rfl;have hcz45_2:=zc BK115 2 (.int .i64 4) rfl;have hcz45_3:=zc BK115 3 (.int .i64 0) rfl;have hfz45_0:=blk_frozen BK115.out 0;have hfz45_1:=blk_frozen BK115.out 1;have hfz45_2:=blk_frozen BK115.out 2;have hfz45_3:=blk_frozen BK115.out 3)|(go_at_call 22;(with_reducible refine (gain_At.calls 0 65536 4 0 4 t118 _ A5.out).mono ?_);rintro e w46 ⟨rfl,hb⟩;replace BK115:=Aside0.mk (blk_below (zB BK115) hb);replace HB:=Aside0.mk (below_step (zW HB) hb);(try clear hb)))
  go_ret
  exact ⟨zX,zW HB⟩
 rw [if_pos c6] at H
 have c6b0 : (t118 == 65536)=true:=beq_iff_eq.mpr c6
 have c6b1 : (t118 != 65536)=false:=bne_eq_false_iff_eq.mpr c6
 clear c6
 replace H:=Option.bind_eq_some_iff.mp H
 obtain ⟨t119,A70,H⟩:=H
 replace H : (if t119=500 then ((gain_Mul.f 65536 7).bind fun t120=>(if t120=7 then ((gain_Valid.f 0 65536 4 0).bind fun t121=>(some t121)) else (some false))) else (some false))=some r:=H
 have A7:=Aside0.mk A70
 clear A70
 by_cases c8 : t119=500
 rotate_left
 ·rw [if_neg c8] at H
  have c8b0 : (t119 == 500)=false:=beq_eq_false_iff_ne.mpr c8
  have c8b1 : (t119 != 500)=true:=bne_iff_ne.mpr c8
  obtain rfl:=Option.some.inj H
  go_enter Try.func12,Try.ntmps12
  go_wp2_with (first|((with_reducible refine gate_dst (N:=1) rfl ?_);refine box_event ?hg (N:=1) ?hd (cs:=#[.int .i64 0,.int .i64 0,.int .i64 0,.int .i64 0]) (t:=35) ?hr ?_;(case hd=>rfl);(case hg=>rfl);(case hr=>first|(go_simp;done)|(go_simp;rfl));intro gb115 hg w32 hbox hb;have BK115:=Aside0.mk hbox;have GW115:=Aside0.mk (zS hg HB);have GE115:=Aside0.mk (zS hg HB);replace HB:=Aside0.mk (below_step (zW HB) hb);clear hb hbox hg;have hcz33_0:=zc BK115 0 (.int .i64 0) rfl;have hcz33_1:=zc BK115 1 (.int .i64 0) rfl;have hcz33_2:=zc BK115 2 (.int .i64 0) rfl;have hcz33_3:=zc BK115 3 (.int .i64 0) rfl;have hfz33_0:=blk_frozen BK115.out 0;have hfz33_1:=blk_frozen BK115.out 1;have hfz33_2:=blk_frozen BK115.out 2;have hfz33_3:=blk_frozen BK115.out 3)|((with_reducible refine gate_callee (f:=18) rfl ?_);refine goesL_ (some 3) rfl rfl Try.func18 zk rfl #[.int .i64 50] rfl zA ?_;(with_reducible refine (gain_Volume.calls 50 t116 _ A1.out).mono ?_);rintro e w34 ⟨rfl,hb⟩;refine ⟨_,rfl,?_⟩;replace BK115:=Aside0.mk (blk_below (g:=gb115) (o:=.cells #[.int .i64 0,.int .i64 65536,.int .i64 4,.int .i64 0] 35 (0,0)) (zB BK115) hb);replace HB:=Aside0.mk (below_step (zW HB) hb);(try clear hb);have hcz35_0:=zc BK115 0 (.int .i64 0) rfl;have hcz35_1:=zc BK115 1 (.int .i64 65536) rfl;have hcz35_2:=zc BK115 2 (.int .i64 4) rfl;have hcz35_3:=zc BK115 3 (.int .i64 0) rfl;have hfz35_0:=blk_frozen BK115.out 0;have hfz35_1:=blk_frozen BK115.out 1;have hfz35_2:=blk_frozen BK115.out 2;have hfz35_3:=blk_frozen BK115.out 3)|(go_at_call 22;(with_reducible refine (gain_At.calls 0 65536 4 0 1 t117 _ A3.out).mono ?_);rintro e w36 ⟨rfl,hb⟩;replace BK115:=Aside0.mk (blk_below (zB BK115) hb);replace HB:=Aside0.mk (below_step (zW HB) hb);(try clear hb);have hcz37_0:=zc BK115 0 (.int .i64 0) rfl;have hcz37_1:=zc BK115 1 (.int .i64 65536) rfl;have hcz37_2:=zc BK115 2 (.int .i64 4) rfl;have hcz37_3:=zc BK115 3 (.int .i64 0) rfl;have hfz37_0:=blk_frozen BK115.out 0;have hfz37_1:=blk_frozen BK115.out 1;have hfz37_2:=blk_frozen BK115.out 2;have hfz37_3:=blk_frozen BK115.out 3)|(go_at_call 22;(with_reducible refine (gain_At.calls 0 65536 4 0 4 t118 _ A5.out).mono ?_);rintro e w38 ⟨rfl,hb⟩;replace BK115:=Aside0.mk (blk_below (zB BK115) hb);replace HB:=Aside0.mk (below_step (zW HB) hb);(try clear hb))|(go_at_call 14;(with_reducible refine (gain_Apply.calls 1000 32768 t119 _ A7.out).mono ?_);rintro e w39 ⟨rfl,hb⟩;replace BK115:=Aside0.mk (blk_below (zB BK115) hb);replace HB:=Aside0.mk (below_step (zW HB) hb);(try clear hb)))
  go_ret
  exact ⟨zX,zW HB⟩
 rw [if_pos c8] at H
 have c8b0 : (t119 == 500)=true:=beq_iff_eq.mpr c8
 have c8b1 : (t119 != 500)=false:=bne_eq_false_iff_eq.mpr c8
 clear c8
 replace H:=Option.bind_eq_some_iff.mp H
 obtain ⟨t120,A90,H⟩:=H
 replace H : (if t120=7 then ((gain_Valid.f 0 65536 4 0).bind fun t121=>(some t121)) else (some false))=some r:=H
 have A9:=Aside0.mk A90
 clear A90
 by_cases c10 : t120=7
 rotate_left
 ·rw [if_neg c10] at H
  have c10b0 : (t120 == 7)=false:=beq_eq_false_iff_ne.mpr c10
  have c10b1 : (t120 != 7)=true:=bne_iff_ne.mpr c10
  obtain rfl:=Option.some.inj H
  go_enter Try.func12,Try.ntmps12
  go_wp2_with (first|((with_reducible refine gate_dst (N:=1) rfl ?_);refine box_event ?hg (N:=1) ?hd (cs:=#[.int .i64 0,.int .i64 0,.int .i64 0,.int .i64 0]) (t:=35) ?hr ?_;(case hd=>rfl);(case hg=>rfl);(case hr=>first|(go_simp;done)|(go_simp;rfl));intro gb115 hg w23 hbox hb;have BK115:=Aside0.mk hbox;have GW115:=Aside0.mk (zS hg HB);have GE115:=Aside0.mk (zS hg HB);replace HB:=Aside0.mk (below_step (zW HB) hb);clear hb hbox hg;have hcz24_0:=zc BK115 0 (.int .i64 0) rfl;have hcz24_1:=zc BK115 1 (.int .i64 0) rfl;have hcz24_2:=zc BK115 2 (.int .i64 0) rfl;have hcz24_3:=zc BK115 3 (.int .i64 0) rfl;have hfz24_0:=blk_frozen BK115.out 0;have hfz24_1:=blk_frozen BK115.out 1;have hfz24_2:=blk_frozen BK115.out 2;have hfz24_3:=blk_frozen BK115.out 3)|((with_reducible refine gate_callee (f:=18) rfl ?_);refine goesL_ (some 3) rfl rfl Try.func18 zk rfl #[.int .i64 50] rfl zA ?_;(with_reducible refine (gain_Volume.calls 50 t116 _ A1.out).mono ?_);rintro e w25 ⟨rfl,hb⟩;refine ⟨_,rfl,?_⟩;replace BK115:=Aside0.mk (blk_below (g:=gb115) (o:=.cells #[.int .i64 0,.int .i64 65536,.int .i64 4,.int .i64 0] 35 (0,0)) (zB BK115) hb);replace HB:=Aside0.mk (below_step (zW HB) hb);(try clear hb);have hcz26_0:=zc BK115 0 (.int .i64 0) rfl;have hcz26_1:=zc BK115 1 (.int .i64 65536) rfl;have hcz26_2:=zc BK115 2 (.int .i64 4) rfl;have hcz26_3:=zc BK115 3 (.int .i64 0) rfl;have hfz26_0:=blk_frozen BK115.out 0;have hfz26_1:=blk_frozen BK115.out 1;have hfz26_2:=blk_frozen BK115.out 2;have hfz26_3:=blk_frozen BK115.out 3)|(go_at_call 22;(with_reducible refine (gain_At.calls 0 65536 4 0 1 t117 _ A3.out).mono ?_);rintro e w27 ⟨rfl,hb⟩;replace BK115:=Aside0.mk (blk_below (zB BK115) hb);replace HB:=Aside0.mk (below_step (zW HB) hb);(try clear hb);have hcz28_0:=zc BK115 0 (.int .i64 0) rfl;have hcz28_1:=zc BK115 1 (.int .i64 65536) rfl;have hcz28_2:=zc BK115 2 (.int .i64 4) rfl;have hcz28_3:=zc BK115 3 (.int .i64 0) rfl;have hfz28_0:=blk_frozen BK115.out 0;have hfz28_1:=blk_frozen BK115.out 1;have hfz28_2:=blk_frozen BK115.out 2;have hfz28_3:=blk_frozen BK115.out 3)|(go_at_call 22;(with_reducible refine (gain_At.calls 0 65536 4 0 4 t118 _ A5.out).mono ?_);rintro e w29 ⟨rfl,hb⟩;replace BK115:=Aside0.mk (blk_below (zB BK115) hb);replace HB:=Aside0.mk (below_step (zW HB) hb);(try clear hb))|(go_at_call 14;(with_reducible refine (gain_Apply.calls 1000 32768 t119 _ A7.out).mono ?_);rintro e w30 ⟨rfl,hb⟩;replace BK115:=Aside0.mk (blk_below (zB BK115) hb);replace HB:=Aside0.mk (below_step (zW HB) hb);(try clear hb))|(go_at_call 16;(with_reducible refine (gain_Mul.calls 65536 7 t120 _ A9.out).mono ?_);rintro e w31 ⟨rfl,hb⟩;replace BK115:=Aside0.mk (blk_below (zB BK115) hb);replace HB:=Aside0.mk (below_step (zW HB) hb);(try clear hb)))
  go_ret
  exact ⟨zX,zW HB⟩
 rw [if_pos c10] at H
 have c10b0 : (t120 == 7)=true:=beq_iff_eq.mpr c10
 have c10b1 : (t120 != 7)=false:=bne_eq_false_iff_eq.mpr c10
 clear c10
 replace H:=Option.bind_eq_some_iff.mp H
 obtain ⟨t121,A110,H⟩:=H
 replace H : (some t121)=some r:=H
 have A11:=Aside0.mk A110
 clear A110
 obtain rfl:=Option.some.inj H
 go_enter Try.func12,Try.ntmps12
 go_wp2_with (first|((with_reducible refine gate_dst (N:=1) rfl ?_);refine box_event ?hg (N:=1) ?hd (cs:=#[.int .i64 0,.int .i64 0,.int .i64 0,.int .i64 0]) (t:=35) ?hr ?_;(case hd=>rfl);(case hg=>rfl);(case hr=>first|(go_simp;done)|(go_simp;rfl));intro gb115 hg w12 hbox hb;have BK115:=Aside0.mk hbox;have GW115:=Aside0.mk (zS hg HB);have GE115:=Aside0.mk (zS hg HB);replace HB:=Aside0.mk (below_step (zW HB) hb);clear hb hbox hg;have hcz13_0:=zc BK115 0 (.int .i64 0) rfl;have hcz13_1:=zc BK115 1 (.int .i64 0) rfl;have hcz13_2:=zc BK115 2 (.int .i64 0) rfl;have hcz13_3:=zc BK115 3 (.int .i64 0) rfl;have hfz13_0:=blk_frozen BK115.out 0;have hfz13_1:=blk_frozen BK115.out 1;have hfz13_2:=blk_frozen BK115.out 2;have hfz13_3:=blk_frozen BK115.out 3)|((with_reducible refine gate_callee (f:=18) rfl ?_);refine goesL_ (some 3) rfl rfl Try.func18 zk rfl #[.int .i64 50] rfl zA ?_;(with_reducible refine (gain_Volume.calls 50 t116 _ A1.out).mono ?_);rintro e w14 ⟨rfl,hb⟩;refine ⟨_,rfl,?_⟩;replace BK115:=Aside0.mk (blk_below (g:=gb115) (o:=.cells #[.int .i64 0,.int .i64 65536,.int .i64 4,.int .i64 0] 35 (0,0)) (zB BK115) hb);replace HB:=Aside0.mk (below_step (zW HB) hb);(try clear hb);have hcz15_0:=zc BK115 0 (.int .i64 0) rfl;have hcz15_1:=zc BK115 1 (.int .i64 65536) rfl;have hcz15_2:=zc BK115 2 (.int .i64 4) rfl;have hcz15_3:=zc BK115 3 (.int .i64 0) rfl;have hfz15_0:=blk_frozen BK115.out 0;have hfz15_1:=blk_frozen BK115.out 1;have hfz15_2:=blk_frozen BK115.out 2;have hfz15_3:=blk_frozen BK115.out 3)|(go_at_call 22;(with_reducible refine (gain_At.calls 0 65536 4 0 1 t117 _ A3.out).mono ?_);rintro e w16 ⟨rfl,hb⟩;replace BK115:=Aside0.mk (blk_below (zB BK115) hb);replace HB:=Aside0.mk (below_step (zW HB) hb);(try clear hb);have hcz17_0:=zc BK115 0 (.int .i64 0) rfl;have hcz17_1:=zc BK115 1 (.int .i64 65536) rfl;have hcz17_2:=zc BK115 2 (.int .i64 4) rfl;have hcz17_3:=zc BK115 3 (.int .i64 0) rfl;have hfz17_0:=blk_frozen BK115.out 0;have hfz17_1:=blk_frozen BK115.out 1;have hfz17_2:=blk_frozen BK115.out 2;have hfz17_3:=blk_frozen BK115.out 3)|(go_at_call 22;(with_reducible refine (gain_At.calls 0 65536 4 0 4 t118 _ A5.out).mono ?_);rintro e w18 ⟨rfl,hb⟩;replace BK115:=Aside0.mk (blk_below (zB BK115) hb);replace HB:=Aside0.mk (below_step (zW HB) hb);(try clear hb))|(go_at_call 14;(with_reducible refine (gain_Apply.calls 1000 32768 t119 _ A7.out).mono ?_);rintro e w19 ⟨rfl,hb⟩;replace BK115:=Aside0.mk (blk_below (zB BK115) hb);replace HB:=Aside0.mk (below_step (zW HB) hb);(try clear hb))|(go_at_call 16;(with_reducible refine (gain_Mul.calls 65536 7 t120 _ A9.out).mono ?_);rintro e w20 ⟨rfl,hb⟩;replace BK115:=Aside0.mk (blk_below (zB BK115) hb);replace HB:=Aside0.mk (below_step (zW HB) hb);(try clear hb);have hcz21_0:=zc BK115 0 (.int .i64 0) rfl;have hcz21_1:=zc BK115 1 (.int .i64 65536) rfl;have hcz21_2:=zc BK115 2 (.int .i64 4) rfl;have hcz21_3:=zc BK115 3 (.int .i64 0) rfl;have hfz21_0:=blk_frozen BK115.out 0;have hfz21_1:=blk_frozen BK115.out 1;have hfz21_2:=blk_frozen BK115.out 2;have hfz21_3:=blk_frozen BK115.out 3)|(go_at_call 26;(with_reducible refine (gain_Valid.calls 0 65536 4 0 t121 _ A11.out).mono ?_);rintro e w22 ⟨rfl,hb⟩;replace BK115:=Aside0.mk (blk_below (zB BK115) hb);replace HB:=Aside0.mk (below_step (zW HB) hb);(try clear hb)))
 go_ret
 exact ⟨zX,zW HB⟩

/-- A state of type 65 at block g of W; what its slices lead to came in by w0. -/
def IsS65 (w0 W : World) (g : Nat) (f0 : List Int) : Prop:=∃ A0 c0,W.heap[g]?=some (.cells #[.slice A0 f0.length c0] 65 (0,0))∧w0.heap.size≤g∧(Kd.C (Kd.int .u8) w0 A0 f0.length f0∧f0.length≤c0)
theorem IsS65.grown {w0 W : World} {g : Nat} {f0 : List Int} {W1 : World} {row : Option Nat} (h : IsS65 w0 W g f0) (hw : W.grownBy W1 row) (hne : some g≠row) : IsS65 w0 W1 g f0:=by
 obtain ⟨A0,c0,hb,hg,hr0⟩:=h
 exact ⟨A0,c0,blk_grown hb hw hne,hg,hr0⟩
theorem IsS65.own_neN {w0 W : World} {g : Nat} {f0 : List Int} {α : Type} {d : Kd α} {e : Nat} {base : Nat} {ok : Nat→Prop} {v : Value} {xs : List α} (h : IsS65 w0 W g f0) (ho : Kd.N d e W base ok v xs) (ht : e≠65) : some g≠v.ownBlock:=by
 obtain ⟨A0,c0,hb,hg,hr0⟩:=h
 exact Kd.N_ne ho hb ht
theorem IsS65.fresh {w0 W : World} {g : Nat} {f0 : List Int} (h : IsS65 w0 W g f0) : ∀ k,W.heap.size≤k→k≠g:=by
 obtain ⟨A0,c0,hb,hg,hr0⟩:=h
 exact Kd.freshB hb
theorem IsS65.kept {w0 W : World} {g : Nat} {f0 : List Int} {W1 : World} {S : Nat→Prop} (h : IsS65 w0 W g f0) (hk : Kept W W1 S) (hne : ¬ S g) : IsS65 w0 W1 g f0:=by
 obtain ⟨A0,c0,hb,hg,hr0⟩:=h
 exact ⟨A0,c0,blk_kept hb hk hne,hg,hr0⟩
theorem IsS65.below {w0 W : World} {g : Nat} {f0 : List Int} {W1 : World} (h : IsS65 w0 W g f0) (hw : Below W.heap.size W W1) : IsS65 w0 W1 g f0:=h.grown (grown_of_below hw none) (by simp)
theorem IsS65.alloc {w0 W : World} {g : Nat} {f0 : List Int} (h : IsS65 w0 W g f0) (o : Obj) : IsS65 w0 (W.alloc o) g f0:=h.below (below_alloc (Below.refl _ _) o)
theorem IsS65.drewN {w0 W : World} {g : Nat} {f0 : List Int} (h : IsS65 w0 W g f0) (m : Nat) : IsS65 w0 (W.drewN m) g f0:=h
theorem IsS65.drew {w0 W : World} {g : Nat} {f0 : List Int} (h : IsS65 w0 W g f0) : IsS65 w0 W.drew g f0:=h
theorem IsS65.at_ {w0 W : World} {g : Nat} {f0 : List Int} {w' : World} {m : Nat} (hq : W.drewN m=w') (h : IsS65 w0 W g f0) : IsS65 w0 w' g f0:=by subst hq;exact IsS65.drewN h m
theorem IsS65.apart {w0 W : World} {g : Nat} {f0 : List Int} {α : Type} {d : Kd α} {e : Nat} {base : Nat} {ok : Nat→Prop} {v : Value} {xs : List α} (h : IsS65 w0 W g f0) (ho : d.R e W base ok v xs) (ht : ∀ q,q ∈ e :: d.E→q≠65) : d.R e W base (fun k=>ok k∧k≠g) v xs:=by
 obtain ⟨A0,c0,hb,hg,hr0⟩:=h
 exact Kd.R_types ho hb ht
theorem IsS65.own_ne {w0 W : World} {g : Nat} {f0 : List Int} {α : Type} {d : Kd α} {e : Nat} {base : Nat} {ok : Nat→Prop} {v : Value} {xs : List α} (h : IsS65 w0 W g f0) (ho : d.R e W base ok v xs) (ht : e≠65) : some g≠v.ownBlock:=by
 obtain ⟨A0,c0,hb,hg,hr0⟩:=h
 exact Kd.R_ne ho hb ht
theorem IsS65.apartQ {w0 W : World} {g : Nat} {f0 : List Int} {α : Type} {d : Kd α} {e : Nat} {base : Nat} {ok : Nat→Prop} {v : Value} {xs : List α} (h : IsS65 w0 W g f0) (ho : d.Q e W base ok v xs) (ht : ∀ q,q ∈ e :: d.E→q≠65) : d.Q e W base (fun k=>ok k∧k≠g) v xs:=by
 obtain ⟨A0,c0,hb,hg,hr0⟩:=h
 exact Kd.Q_types ho hb ht
theorem IsS65.own_neQ {w0 W : World} {g : Nat} {f0 : List Int} {α : Type} {d : Kd α} {e : Nat} {base : Nat} {ok : Nat→Prop} {v : Value} {xs : List α} (h : IsS65 w0 W g f0) (ho : d.Q e W base ok v xs) (ht : e≠65) : some g≠v.ownBlock:=by
 obtain ⟨A0,c0,hb,hg,hr0⟩:=h
 exact Kd.Q_ne ho hb ht
theorem IsS65.apartS {w0 W : World} {g : Nat} {f0 : List Int} {α : Type} {d : Kd α} {e : Nat} {base : Nat} {ok : Nat→Prop} {v : Value} {xs : List α} (h : IsS65 w0 W g f0) (ho : d.S e W base ok v xs) (ht : ∀ q,q ∈ e :: d.E→q≠65) : d.S e W base (fun k=>ok k∧k≠g) v xs:=by
 obtain ⟨A0,c0,hb,hg,hr0⟩:=h
 exact Kd.S_types ho hb ht
theorem IsS65.own_neS {w0 W : World} {g : Nat} {f0 : List Int} {α : Type} {d : Kd α} {e : Nat} {base : Nat} {ok : Nat→Prop} {v : Value} {xs : List α} (h : IsS65 w0 W g f0) (ho : d.S e W base ok v xs) (ht : e≠65) : some g≠v.ownBlock:=by
 obtain ⟨A0,c0,hb,hg,hr0⟩:=h
 exact Kd.S_ne ho hb ht
theorem IsS65.lt {w0 W : World} {g : Nat} {f0 : List Int} (h : IsS65 w0 W g f0) : g<W.heap.size:=by
 obtain ⟨A0,c0,hb,hg,hr0⟩:=h
 exact blk_lt hb
theorem IsS65.ge {w0 W : World} {g : Nat} {f0 : List Int} (h : IsS65 w0 W g f0) : w0.heap.size≤g:=by
 obtain ⟨A0,c0,hb,hg,hr0⟩:=h
 exact hg
theorem IsS65.ne_blk {w0 W : World} {g : Nat} {f0 : List Int} {a : Nat} {cs : Array Value} {t : TypeId} {fr : Nat×Nat} (h : IsS65 w0 W g f0) (hb2 : W.heap[a]?=some (.cells cs t fr)) (ht : t≠65) : g≠a:=by
 obtain ⟨A0,c0,hb,hg,hr0⟩:=h
 rintro rfl
 rw [hb] at hb2
 injection hb2 with hb2
 injection hb2 with _ ht2
 exact ht ht2.symm
theorem IsS65.far {w0 W : World} {g : Nat} {f0 : List Int} {p : Addr} (h : IsS65 w0 W g f0) (hne : g≠p.block) (u : Value) : IsS65 w0 (W.setCell p u) g f0:=by
 obtain ⟨A0,c0,hb,hg,hr0⟩:=h
 exact ⟨A0,c0,blk_far hb hne u,hg,hr0⟩
theorem zI {w0 w1 w W : World} {g : Nat} {f0 : List Int} (x : Aside0 (Below w0.heap.size w0 w1)) (y : Aside0 (IsS65 w0 W g f0)) (f : w0.heap.size≤g→Below w0.heap.size w0 w1→Below w0.heap.size w0 w:=by intro g_ h_;repeat (first|(with_reducible first|exact h_|apply below_alloc|apply pw_below_drewN|apply below_drew1|refine below_set ?_ g_|refine below_set ?_ (Aside0.out (by with_reducible assumption)))|exact h_)) : Below w0.heap.size w0 w:=f y.out.ge x.out
theorem zJ {w0 W W' : World} {g : Nat} {f0 : List Int} {f0x : List Int} (x : Aside0 (IsS65 w0 W g f0)) (f : IsS65 w0 W g f0→IsS65 w0 W' g f0x:=by intro h_;repeat (first|(with_reducible first|exact h_|apply IsS65.alloc|apply IsS65.drewN|apply IsS65.drew|refine IsS65.far ?_ (Aside0.out (by with_reducible assumption)) _)|exact h_)) : IsS65 w0 W' g f0x:=f x.out
theorem cellS65_0 {W : World} {g : Nat} {A0 : Option Addr} {c0 : Nat} {f0 : List Int} (h : W.heap[g]?=some (.cells #[.slice A0 f0.length c0] 65 (0,0))) : W.cell? ⟨g,0,none⟩=some (.slice A0 f0.length c0):=(blk_cell h 0).trans rfl
theorem IsS65.new (w0 W : World) (A0 : Option Addr) (c0 : Nat) (f0 : List Int) (hB : Below w0.heap.size w0 W) (hr0 : (Kd.C (Kd.int .u8) w0 A0 f0.length f0∧f0.length≤c0)) : IsS65 w0 (W.alloc (.cells #[.slice A0 f0.length c0] 65)) W.heap.size f0:=⟨A0,c0,by simpa using heap_alloc_new W _,hB.size,hr0⟩

/-! ### soundservicemade_Dice_Next: function 30 -/
def soundservicemade_Dice_Next.f (s0_0 : List Int) (a1 : Int) : Option (Int×List Int):=if (s0_0.length : Int)=0 then some (0,s0_0) else if a1≤1 then some (0,s0_0) else some (Int.tmod (wrap64 (rd s0_0 0)) a1,s0_0.drop 1)
set_option maxHeartbeats 8000000 in
set_option maxRecDepth 100000 in
theorem soundservicemade_Dice_Next.calls (g : Nat) (s0_0 : List Int) (a1 : Int) (r1 : Int) (r2 : List Int) (w0 w : World) (hI : IsS65 w0 w g s0_0) (hB : Below w0.heap.size w0 w) (h : soundservicemade_Dice_Next.f s0_0 a1=some (r1,r2)) :
  Calls Try.prog 30 #[.pointer (some ⟨g,0,none⟩),.int .i64 a1] w fun e w'=>e = .returned (.int .i64 r1)∧IsS65 w0 w' g r2∧Below w0.heap.size w0 w'∧KeepBut w w' g none:=by
 obtain ⟨A0,c0,hb,hg,hr,hle⟩:=hI
 have hcell : w.cell? ⟨g,0,none⟩=some (.slice A0 s0_0.length c0):=(blk_cell hb 0).trans rfl
 have hfz : w.frozen? ⟨g,0,none⟩=false:=blk_frozen hb 0
 unfold soundservicemade_Dice_Next.f at h
 by_cases c1 : (s0_0.length : Int)=0
 ·rw [if_pos c1] at h
  simp only [Option.some.injEq,Prod.mk.injEq] at h
  obtain ⟨rfl,rfl⟩:=h
  have e1 : ((s0_0.length : Int) == 0)=true:=by simp [c1]
  clear c1
  go_enter Try.func30,Try.ntmps30
  go_wp2
  go_ret
  exact ⟨rfl,⟨A0,c0,hb,hg,hr,hle⟩,hB,KeepBut.refl w g none⟩
 rw [if_neg c1] at h
 have e1 : ((s0_0.length : Int) == 0)=false:=by simpa using c1
 by_cases c2 : a1≤1
 ·rw [if_pos c2] at h
  simp only [Option.some.injEq,Prod.mk.injEq] at h
  obtain ⟨rfl,rfl⟩:=h
  have e2 : decide (a1≤1)=true:=decide_eq_true c2
  clear c1 c2
  go_enter Try.func30,Try.ntmps30
  go_wp2
  go_ret
  exact ⟨rfl,⟨A0,c0,hb,hg,hr,hle⟩,hB,KeepBut.refl w g none⟩
 rw [if_neg c2] at h
 simp only [Option.some.injEq,Prod.mk.injEq] at h
 obtain ⟨rfl,rfl⟩:=h
 have e2 : decide (a1≤1)=false:=decide_eq_false c2
 have hpos : 0<s0_0.length:=by omega
 obtain ⟨ad,eA,hc0⟩:=Kd.at_int hr 0 (by omega) (by omega)
 subst eA
 have hc : w.cell? (ad.add 0)=some (.int .u8 (rd s0_0 0)):=(hB.cell (World.block_lt_of_cell? w0 _ hc0)).trans hc0
 obtain ⟨i0,hi0,_,hsz,_⟩:=info_parts info5
 have hsl:=cut_from (P:=Try.prog) 36 5 .i64 Try.underlying36 hi0 1 hsz (some ad) s0_0.length c0 1 (by omega) (by omega)
 have hc1 : w.cell? ad=some (.int .u8 (rd s0_0 0)):=by
  have h_:=hc
  simpa [Addr.add] using h_
 obtain ⟨A',hA'⟩ : ∃ A' : Option Addr,A'=(if c0=Int.toNat 1 then some ad else Option.map (fun x=>x.add (Int.toNat 1*1)) (some ad)):=⟨_,rfl⟩
 rw [← hA'] at hsl
 have hnew : Kd.C (Kd.int .u8) w0 A' s0_0.tail.length s0_0.tail:=by
  refine Kd.C_of_reads (d:=(0 : Int)) (h1:=fun _=>rfl) ⟨rfl,?_,fun hn=>?_⟩
  ·have:=hr.2.1
   rw [List.length_tail]
   omega
  ·rw [List.length_tail] at hn
   have hro:=Kd.reads_of_C (enc:=Value.int .u8) (d:=(0 : Int)) (h1:=fun _=>rfl) hr
   obtain ⟨ad',e',hcs⟩:=hro.2.2 hpos
   injection e' with e'
   subst e'
   refine ⟨ad.add 1,?_,fun j hj=>?_⟩
   ·rw [hA',if_neg (by omega)]
    rfl
   ·have h_:=hcs (1+j) (by rw [List.length_tail] at hj;omega)
    rw [Addr.add_add]
    rw [h_]
    congr 2
    rw [← List.drop_one,List.getD_eq_getElem?_getD,List.getD_eq_getElem?_getD,List.getElem?_drop]
 have hA:=Aside0.mk hnew
 have hL:=Aside0.mk hle
 have hr2:=Aside0.mk hr
 have hb2:=Aside0.mk hb
 have hlt0 : decide ((0 : Int)<(s0_0.length : Int))=true:=decide_eq_true (by omega)
 have hlt1 : decide (0<s0_0.length)=true:=decide_eq_true hpos
 clear c1 hc0 hr hc hA' hb hi0 hsz hnew hle
 go_enter Try.func30,Try.ntmps30
 go_wp2
 go_ret
 refine ⟨rfl,⟨A',c0 - 1,?_,hg,hA.out,?_⟩,below_set hB hg,KeepBut.set_ (KeepBut.refl w g none) _ _⟩
 ·have h_:=blk_set hb2.out 0 (Value.slice A' (s0_0.length - 1) (c0 - 1))
  rw [List.length_tail]
  simpa using h_
 ·have:=hL.out
  rw [List.length_tail]
  omega

end Go.Proofs.Ytegodmjmoagajaa.QM
