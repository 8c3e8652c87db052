-- Written by a program of this session, out of the seat's translation; checked by the kernel alone.
import Derived.Test.YtcnmemcclhahnaaQT0
namespace Go.Proofs.Ytcnmemcclhahnaa.QT
open Go.RowKit Go.Proofs.YtcnmemcclhahnaaW.PrintWords Go.Proofs.YtcnmemcclhahnaaW.PrintLast Go.Proofs.YtcnmemcclhahnaaW.PrintMore
attribute [local go_sem] max2_int min2_int max_two min_two max_three min_three max_four min_four   -- for this text's walks alone
set_option linter.unusedVariables false
set_option linter.unusedSimpArgs false

def gain_is.f (a0 : Int) : Option (Bool):=if a0 ≥ 0 then (some (decide (a0≤262144))) else (some false)
set_option maxHeartbeats 8000000 in
set_option maxRecDepth 100000 in
theorem gain_is.calls (a0 : Int) (r : Bool) (w : World) (h : gain_is.f a0=some r) :
  Calls Try.prog 70 #[.int .i64 a0] w fun e w'=>e = .returned (.bool r)∧Drawn0 w w':=by
 have H:=h;unfold gain_is.f at H;clear h
 by_cases c2 : a0 ≥ 0
 ·rw [if_pos c2] at H;have c2b0:=decide_eq_true c2;clear c2;obtain rfl:=Option.some.inj H
  go_enter Try.func70,Try.ntmps70
  go_wp2
  go_ret
  exact ⟨by first|rfl|(simp;done)|(simp [*];done),by repeat (first|exact Drawn0.refl _|apply Drawn0.step)⟩
 rw [if_neg c2] at H;have c2b0:=decide_eq_false c2;clear c2;obtain rfl:=Option.some.inj H
 go_enter Try.func70,Try.ntmps70
 go_wp2
 go_ret
 exact ⟨by first|rfl|(simp;done)|(simp [*];done),by repeat (first|exact Drawn0.refl _|apply Drawn0.step)⟩

def gain_slope_valid.f (a0_0 : Int) (a0_1 : Int) (a0_2 : Int) (a0_3 : Int) : Option (Bool):=(gain_is.f a0_0).bind fun t102=>(if t102=true then ((gain_is.f a0_1).bind fun t103=>(if t103=true then (if a0_2 ≥ 0 then (if a0_2≤4194304 then (if a0_3 ≥ 0 then (some (decide (a0_3≤a0_2))) else (some false)) else (some false)) else (some false)) else (some false))) else (some false))
set_option maxHeartbeats 8000000 in
set_option maxRecDepth 100000 in
theorem gain_slope_valid.calls (a0_0 : Int) (a0_1 : Int) (a0_2 : Int) (a0_3 : Int) (r : Bool) (w : World) (h : gain_slope_valid.f a0_0 a0_1 a0_2 a0_3=some r) :
  Calls Try.prog 62 #[.agg #[.int .i64 a0_0,.int .i64 a0_1,.int .i64 a0_2,.int .i64 a0_3]] w fun e w'=>e = .returned (.bool r)∧Below w.heap.size w w':=by
 have hu98:=Try.underlying98;have HB:=zo (Below.refl w.heap.size w);have H:=h;unfold gain_slope_valid.f at H;clear h;replace H:=Option.bind_eq_some_iff.mp H;obtain ⟨t102,A20,H⟩:=H
 try dsimp only at H
 have A2:=zo A20;clear A20
 by_cases c3 : t102=true
 rotate_left
 ·replace c3:=Bool.eq_false_iff.mpr c3;subst c3;have H1:=H;rw [if_neg (show ¬ (false=true) by decide)] at H1;clear H;have H:=H1;clear H1;obtain rfl:=Option.some.inj H
  go_enter Try.func62,Try.ntmps62
  go_wp2_with (first|((with_reducible refine gate_dst (N:=1) rfl ?_);refine box_event ?hg (N:=1) ?hd (cs:=#[.int .i64 a0_0,.int .i64 a0_1,.int .i64 a0_2,.int .i64 a0_3]) (t:=98) ?hr ?_;(case hd=>rfl);(case hg=>rfl);(case hr=>first|(go_simp;done)|(go_simp;rfl));intro gb101 hg w19 hbox hb;have BK101:=zo hbox;have GW101:=zo (zS hg HB);have GE101:=zo (zS hg HB);replace HB:=zo (below_step (zW HB) hb);clear hb hbox hg;obtain ⟨hcz20_0,hfz20_0,hcz20_1,hfz20_1,hcz20_2,hfz20_2,hcz20_3,hfz20_3⟩:=zn4 BK101)|((with_reducible refine gate_callee (f:=70) rfl ?_);refine goesL_ (some 6) rfl rfl Try.func70 zk rfl #[.int .i64 a0_0] rfl zA ?_;(with_reducible refine (gain_is.calls a0_0 false _ A2.out).mono ?_);rintro e w' ⟨rfl,⟨nd,rfl⟩⟩;refine ⟨_,rfl,?_⟩))
  go_ret
  exact ⟨zX,zW HB⟩
 subst c3;have H1:=H;rw [if_pos rfl] at H1;clear H;have H:=H1;clear H1;replace H:=Option.bind_eq_some_iff.mp H;obtain ⟨t103,A40,H⟩:=H
 try dsimp only at H
 have A4:=zo A40;clear A40
 by_cases c5 : t103=true
 rotate_left
 ·replace c5:=Bool.eq_false_iff.mpr c5;subst c5;have H1:=H;rw [if_neg (show ¬ (false=true) by decide)] at H1;clear H;have H:=H1;clear H1;obtain rfl:=Option.some.inj H
  go_enter Try.func62,Try.ntmps62
  go_wp2_with (first|((with_reducible refine gate_dst (N:=1) rfl ?_);refine box_event ?hg (N:=1) ?hd (cs:=#[.int .i64 a0_0,.int .i64 a0_1,.int .i64 a0_2,.int .i64 a0_3]) (t:=98) ?hr ?_;(case hd=>rfl);(case hg=>rfl);(case hr=>first|(go_simp;done)|(go_simp;rfl));intro gb101 hg w17 hbox hb;have BK101:=zo hbox;have GW101:=zo (zS hg HB);have GE101:=zo (zS hg HB);replace HB:=zo (below_step (zW HB) hb);clear hb hbox hg;obtain ⟨hcz18_0,hfz18_0,hcz18_1,hfz18_1,hcz18_2,hfz18_2,hcz18_3,hfz18_3⟩:=zn4 BK101)|((with_reducible refine gate_callee (f:=70) rfl ?_);refine goesL_ (some 6) rfl rfl Try.func70 zk rfl #[.int .i64 a0_0] rfl zA ?_;(with_reducible refine (gain_is.calls a0_0 true _ A2.out).mono ?_);rintro e w' ⟨rfl,⟨nd,rfl⟩⟩;refine ⟨_,rfl,?_⟩)|(go_at_call 70;(with_reducible refine (gain_is.calls a0_1 false _ A4.out).mono ?_);rintro e w' ⟨rfl,⟨nd,rfl⟩⟩))
  go_ret
  exact ⟨zX,zW HB⟩
 subst c5;have H1:=H;rw [if_pos rfl] at H1;clear H;have H:=H1;clear H1
 by_cases c6 : a0_2 ≥ 0
 rotate_left
 ·rw [if_neg c6] at H;have c6b0:=decide_eq_false c6;clear c6;obtain rfl:=Option.some.inj H
  go_enter Try.func62,Try.ntmps62
  go_wp2_with (first|((with_reducible refine gate_dst (N:=1) rfl ?_);refine box_event ?hg (N:=1) ?hd (cs:=#[.int .i64 a0_0,.int .i64 a0_1,.int .i64 a0_2,.int .i64 a0_3]) (t:=98) ?hr ?_;(case hd=>rfl);(case hg=>rfl);(case hr=>first|(go_simp;done)|(go_simp;rfl));intro gb101 hg w15 hbox hb;have BK101:=zo hbox;have GW101:=zo (zS hg HB);have GE101:=zo (zS hg HB);replace HB:=zo (below_step (zW HB) hb);clear hb hbox hg;obtain ⟨hcz16_0,hfz16_0,hcz16_1,hfz16_1,hcz16_2,hfz16_2,hcz16_3,hfz16_3⟩:=zn4 BK101)|((with_reducible refine gate_callee (f:=70) rfl ?_);refine goesL_ (some 6) rfl rfl Try.func70 zk rfl #[.int .i64 a0_0] rfl zA ?_;(with_reducible refine (gain_is.calls a0_0 true _ A2.out).mono ?_);rintro e w' ⟨rfl,⟨nd,rfl⟩⟩;refine ⟨_,rfl,?_⟩)|(go_at_call 70;(with_reducible refine (gain_is.calls a0_1 true _ A4.out).mono ?_);rintro e w' ⟨rfl,⟨nd,rfl⟩⟩))
  go_ret
  exact ⟨zX,zW HB⟩
 rw [if_pos c6] at H;have c6b0:=decide_eq_true c6;clear c6
 by_cases c7 : a0_2≤4194304
 rotate_left
 ·rw [if_neg c7] at H;have c7b0:=decide_eq_false c7;clear c7;obtain rfl:=Option.some.inj H
  go_enter Try.func62,Try.ntmps62
  go_wp2_with (first|((with_reducible refine gate_dst (N:=1) rfl ?_);refine box_event ?hg (N:=1) ?hd (cs:=#[.int .i64 a0_0,.int .i64 a0_1,.int .i64 a0_2,.int .i64 a0_3]) (t:=98) ?hr ?_;(case hd=>rfl);(case hg=>rfl);(case hr=>first|(go_simp;done)|(go_simp;rfl));intro gb101 hg w13 hbox hb;have BK101:=zo hbox;have GW101:=zo (zS hg HB);have GE101:=zo (zS hg HB);replace HB:=zo (below_step (zW HB) hb);clear hb hbox hg;obtain ⟨hcz14_0,hfz14_0,hcz14_1,hfz14_1,hcz14_2,hfz14_2,hcz14_3,hfz14_3⟩:=zn4 BK101)|((with_reducible refine gate_callee (f:=70) rfl ?_);refine goesL_ (some 6) rfl rfl Try.func70 zk rfl #[.int .i64 a0_0] rfl zA ?_;(with_reducible refine (gain_is.calls a0_0 true _ A2.out).mono ?_);rintro e w' ⟨rfl,⟨nd,rfl⟩⟩;refine ⟨_,rfl,?_⟩)|(go_at_call 70;(with_reducible refine (gain_is.calls a0_1 true _ A4.out).mono ?_);rintro e w' ⟨rfl,⟨nd,rfl⟩⟩))
  go_ret
  exact ⟨zX,zW HB⟩
 rw [if_pos c7] at H;have c7b0:=decide_eq_true c7;clear c7
 by_cases c8 : a0_3 ≥ 0
 ·rw [if_pos c8] at H;have c8b0:=decide_eq_true c8;clear c8;obtain rfl:=Option.some.inj H
  go_enter Try.func62,Try.ntmps62
  go_wp2_with (first|((with_reducible refine gate_dst (N:=1) rfl ?_);refine box_event ?hg (N:=1) ?hd (cs:=#[.int .i64 a0_0,.int .i64 a0_1,.int .i64 a0_2,.int .i64 a0_3]) (t:=98) ?hr ?_;(case hd=>rfl);(case hg=>rfl);(case hr=>first|(go_simp;done)|(go_simp;rfl));intro gb101 hg w9 hbox hb;have BK101:=zo hbox;have GW101:=zo (zS hg HB);have GE101:=zo (zS hg HB);replace HB:=zo (below_step (zW HB) hb);clear hb hbox hg;obtain ⟨hcz10_0,hfz10_0,hcz10_1,hfz10_1,hcz10_2,hfz10_2,hcz10_3,hfz10_3⟩:=zn4 BK101)|((with_reducible refine gate_callee (f:=70) rfl ?_);refine goesL_ (some 6) rfl rfl Try.func70 zk rfl #[.int .i64 a0_0] rfl zA ?_;(with_reducible refine (gain_is.calls a0_0 true _ A2.out).mono ?_);rintro e w' ⟨rfl,⟨nd,rfl⟩⟩;refine ⟨_,rfl,?_⟩)|(go_at_call 70;(with_reducible refine (gain_is.calls a0_1 true _ A4.out).mono ?_);rintro e w' ⟨rfl,⟨nd,rfl⟩⟩))
  go_ret
  exact ⟨zX,zW HB⟩
 rw [if_neg c8] at H;have c8b0:=decide_eq_false c8;clear c8;obtain rfl:=Option.some.inj H
 go_enter Try.func62,Try.ntmps62
 go_wp2_with (first|((with_reducible refine gate_dst (N:=1) rfl ?_);refine box_event ?hg (N:=1) ?hd (cs:=#[.int .i64 a0_0,.int .i64 a0_1,.int .i64 a0_2,.int .i64 a0_3]) (t:=98) ?hr ?_;(case hd=>rfl);(case hg=>rfl);(case hr=>first|(go_simp;done)|(go_simp;rfl));intro gb101 hg w11 hbox hb;have BK101:=zo hbox;have GW101:=zo (zS hg HB);have GE101:=zo (zS hg HB);replace HB:=zo (below_step (zW HB) hb);clear hb hbox hg;obtain ⟨hcz12_0,hfz12_0,hcz12_1,hfz12_1,hcz12_2,hfz12_2,hcz12_3,hfz12_3⟩:=zn4 BK101)|((with_reducible refine gate_callee (f:=70) rfl ?_);refine goesL_ (some 6) rfl rfl Try.func70 zk rfl #[.int .i64 a0_0] rfl zA ?_;(with_reducible refine (gain_is.calls a0_0 true _ A2.out).mono ?_);rintro e w' ⟨rfl,⟨nd,rfl⟩⟩;refine ⟨_,rfl,?_⟩)|(go_at_call 70;(with_reducible refine (gain_is.calls a0_1 true _ A4.out).mono ?_);rintro e w' ⟨rfl,⟨nd,rfl⟩⟩))
 go_ret
 exact ⟨zX,zW HB⟩

def gain_Valid.f (a0_0 : Int) (a0_1 : Int) (a0_2 : Int) (a0_3 : Int) : Option (Bool):=(gain_slope_valid.f a0_0 a0_1 a0_2 a0_3).bind fun t105=>(some t105)
set_option maxHeartbeats 8000000 in
set_option maxRecDepth 100000 in
theorem gain_Valid.calls (a0_0 : Int) (a0_1 : Int) (a0_2 : Int) (a0_3 : Int) (r : Bool) (w : World) (h : gain_Valid.f a0_0 a0_1 a0_2 a0_3=some r) :
  Calls Try.prog 39 #[.agg #[.int .i64 a0_0,.int .i64 a0_1,.int .i64 a0_2,.int .i64 a0_3]] w fun e w'=>e = .returned (.bool r)∧Below w.heap.size w w':=by
 have hu52:=Try.underlying52;have hu98:=Try.underlying98;have HB:=zo (Below.refl w.heap.size w);have H:=h;unfold gain_Valid.f at H;clear h;replace H:=Option.bind_eq_some_iff.mp H;obtain ⟨t105,A20,H⟩:=H
 try dsimp only at H
 have A2:=zo A20;clear A20;obtain rfl:=Option.some.inj H
 go_enter Try.func39,Try.ntmps39
 go_wp2_with (first|((with_reducible refine gate_dst (N:=1) rfl ?_);refine box_event ?hg (N:=1) ?hd (cs:=#[.int .i64 a0_0,.int .i64 a0_1,.int .i64 a0_2,.int .i64 a0_3]) (t:=52) ?hr ?_;(case hd=>rfl);(case hg=>rfl);(case hr=>first|(go_simp;done)|(go_simp;rfl));intro gb104 hg w3 hbox hb;have BK104:=zo hbox;have GW104:=zo (zS hg HB);have GE104:=zo (zS hg HB);replace HB:=zo (below_step (zW HB) hb);clear hb hbox hg;obtain ⟨hcz4_0,hfz4_0,hcz4_1,hfz4_1,hcz4_2,hfz4_2,hcz4_3,hfz4_3⟩:=zn4 BK104)|((with_reducible refine gate_callee (f:=62) rfl ?_);refine goesL_ (some 5) rfl rfl Try.func62 zk rfl #[.agg #[.int .i64 a0_0,.int .i64 a0_1,.int .i64 a0_2,.int .i64 a0_3]] rfl zA ?_;(with_reducible refine (gain_slope_valid.calls a0_0 a0_1 a0_2 a0_3 t105 _ A2.out).mono ?_);rintro e w5 ⟨rfl,hb⟩;refine ⟨_,rfl,?_⟩;replace BK104:=zo (blk_below (zB BK104) hb);replace HB:=zo (below_step (zW HB) hb);(try clear hb)))
 go_ret
 exact ⟨zX,zW HB⟩

def sample_is.f (a0 : Int) : Option (Bool):=if a0 ≥ (-8388608) then (some (decide (a0≤8388607))) else (some false)
set_option maxHeartbeats 8000000 in
set_option maxRecDepth 100000 in
theorem sample_is.calls (a0 : Int) (r : Bool) (w : World) (h : sample_is.f a0=some r) :
  Calls Try.prog 67 #[.int .i32 a0] w fun e w'=>e = .returned (.bool r)∧Drawn0 w w':=by
 have H:=h;unfold sample_is.f at H;clear h
 by_cases c2 : a0 ≥ (-8388608)
 ·rw [if_pos c2] at H;have c2b0:=decide_eq_true c2;clear c2;obtain rfl:=Option.some.inj H
  go_enter Try.func67,Try.ntmps67
  go_wp2
  go_ret
  exact ⟨by first|rfl|(simp;done)|(simp [*];done),by repeat (first|exact Drawn0.refl _|apply Drawn0.step)⟩
 rw [if_neg c2] at H;have c2b0:=decide_eq_false c2;clear c2;obtain rfl:=Option.some.inj H
 go_enter Try.func67,Try.ntmps67
 go_wp2
 go_ret
 exact ⟨by first|rfl|(simp;done)|(simp [*];done),by repeat (first|exact Drawn0.refl _|apply Drawn0.step)⟩

mutual
def sample_Valid.j0 : Nat→Bool→Int→List Int→Option (Bool)
 | 0,_,_,_=>none
 | k+1,x30,x107000,x107001=>if x30=true then (some false) else (sample_Valid.l0 k x107001 (x107001.length : Int) 0)
def sample_Valid.l0 : Nat→List Int→Int→Int→Option (Bool)
 | 0,_,_,_=>none
 | k+1,x32,x33,x34=>if x34<x33 then (if 0≤x34 then (if x34<(x32.length : Int) then ((sample_is.f (rd x32 x34)).bind fun t108=>(if t108=true then (sample_Valid.l0 k x32 x33 (wrap64 (x34+1))) else (some false))) else (none)) else (none)) else (some true)
end
def sample_Valid.f (k : Nat) (a0_0 : Int) (l0_1 : List Int) : Option (Bool):=if a0_0<1 then (sample_Valid.j0 k true a0_0 l0_1) else (if a0_0>8 then (sample_Valid.j0 k true a0_0 l0_1) else (if a0_0=0 then (none) else (if ((l0_1.length : Int) % a0_0)=0 then (sample_Valid.j0 k (decide ((wrap64 ((l0_1.length : Int) / a0_0))>65536)) a0_0 l0_1) else (sample_Valid.j0 k true a0_0 l0_1))))
theorem sample_Valid.mono_l : ∀ k,(∀ y0 y1 y2,LeO (sample_Valid.j0 k y0 y1 y2) (sample_Valid.j0 (k+1) y0 y1 y2))∧(∀ y0 y1 y2,LeO (sample_Valid.l0 k y0 y1 y2) (sample_Valid.l0 (k+1) y0 y1 y2))
 | 0=>⟨fun _ _ _ r h=>by simp [sample_Valid.j0] at h,fun _ _ _ r h=>by simp [sample_Valid.l0] at h⟩
 | k+1=>by
  obtain ⟨ih0,ih1⟩:=sample_Valid.mono_l k;refine ⟨?_,?_⟩
  ·intro y0 y1 y2;unfold sample_Valid.j0
   repeat' first
   | (with_reducible exact ih0 _ _ _)
   | (with_reducible exact ih1 _ _ _)
   | (with_reducible exact LeO.refl _)
   | (with_reducible exact LeO.none _)
   | (with_reducible refine LeO.ite ?_ ?_)
   | (with_reducible refine LeO.bind ?_ (fun _=>?_))
   | exact ih0 _ _ _
   | exact ih1 _ _ _
   | exact LeO.none _
   | refine LeO.ite ?_ ?_
   | refine LeO.bind ?_ (fun _=>?_)
  ·intro y0 y1 y2;unfold sample_Valid.l0
   repeat' first
   | (with_reducible exact ih0 _ _ _)
   | (with_reducible exact ih1 _ _ _)
   | (with_reducible exact LeO.refl _)
   | (with_reducible exact LeO.none _)
   | (with_reducible refine LeO.ite ?_ ?_)
   | (with_reducible refine LeO.bind ?_ (fun _=>?_))
   | exact ih0 _ _ _
   | exact ih1 _ _ _
   | exact LeO.none _
   | refine LeO.ite ?_ ?_
   | refine LeO.bind ?_ (fun _=>?_)
theorem sample_Valid.mono : ∀ a0 a1 k,LeO (sample_Valid.f k a0 a1) (sample_Valid.f (k+1) a0 a1):=by
 intro a0 a1 k;obtain ⟨ih0,ih1⟩:=sample_Valid.mono_l k;unfold sample_Valid.f
 repeat' first
   | (with_reducible exact ih0 _ _ _)
   | (with_reducible exact ih1 _ _ _)
   | (with_reducible exact LeO.refl _)
   | (with_reducible exact LeO.none _)
   | (with_reducible refine LeO.ite ?_ ?_)
   | (with_reducible refine LeO.bind ?_ (fun _=>?_))
   | exact ih0 _ _ _
   | exact ih1 _ _ _
   | exact LeO.none _
   | refine LeO.ite ?_ ?_
   | refine LeO.bind ?_ (fun _=>?_)
set_option maxHeartbeats 8000000 in
set_option maxRecDepth 100000 in
theorem sample_Valid.calls (k : Nat) (a0_0 : Int) (A0_1 : Option Addr) (c0_1 : Nat) (l0_1 : List Int) (r : Bool) (w : World) (hr0_1 : Kd.C (Kd.int .i32) w A0_1 l0_1.length l0_1) (hc0_1 : l0_1.length≤c0_1) (h : sample_Valid.f k a0_0 l0_1=some r) :
  Calls Try.prog 48 #[.agg #[.int .i64 a0_0,.slice A0_1 l0_1.length c0_1]] w fun e w'=>e = .returned (.bool r)∧Below w.heap.size w w':=by
 have hu43:=Try.underlying43;have HR0_1:=zo hr0_1;have HC0_1:=zo hc0_1;clear hr0_1 hc0_1;have HB:=zo (Below.refl w.heap.size w);have H:=h;unfold sample_Valid.f at H;clear h;have HC2:=zo H;clear H
 go_enter Try.func48,Try.ntmps48
 go_upto_region 1 with (first|((with_reducible refine gate_dst (N:=1) rfl ?_);(try (refine gate_guard (by rfl) ?_;dsimp only));refine box_event ?hg (N:=1) ?hd (cs:=#[.int .i64 a0_0,.slice A0_1 l0_1.length c0_1]) (t:=43) ?hr ?_;(case hd=>rfl);(case hg=>rfl);(case hr=>first|(go_simp;done)|(go_simp;rfl));intro gb106 hg w3 hbox hb;have BK106:=zo hbox;have GW106:=zo (zS hg HB);have GE106:=zo (zS hg HB);replace HB:=zo (below_step (zW HB) hb);clear hb hbox hg))
 (try simp only [Act.put,List.setIfInBounds_toArray,List.set_cons_zero,List.set_cons_succ])
 go_cut [30] (fun v30 wc=>∃ (kq : Nat) (x30_1 : Bool),v30 = .bool x30_1∧Aside0 (sample_Valid.j0 kq x30_1 a0_0 l0_1=some r)∧Aside0 (kq≤k)∧Aside0 (wc.heap[gb106]?=some (.cells #[.int .i64 a0_0,(.slice A0_1 l0_1.length c0_1)] 43 (0,0)))∧Aside0 (Below w.heap.size w wc))
 case first=>
  have H:=HC2.out;clear HC2
  by_cases c4 : a0_0<1
  ·rw [if_pos c4] at H;have c4b0:=decide_eq_true c4;clear c4;(first|rw [c4b0]|(simp only [i64_w,i32_w];rw [c4b0])|skip);have H':=zo H;clear H;obtain ⟨hcz5_0,hfz5_0,hcz5_1,hfz5_1⟩:=zn2 BK106
   go_wp2
   go_meet
   case rel=>exact ⟨_,(true),zE,H',⟨zY⟩,⟨zB BK106⟩,⟨zW HB⟩⟩
  rw [if_neg c4] at H;have c4b0:=decide_eq_false c4;clear c4;(first|rw [c4b0]|(simp only [i64_w,i32_w];rw [c4b0])|skip)
  by_cases c6 : a0_0>8
  ·rw [if_pos c6] at H;have c6b0:=decide_eq_true c6;clear c6;have H':=zo H;clear H;obtain ⟨hcz7_0,hfz7_0,hcz7_1,hfz7_1⟩:=zn2 BK106
   go_wp2
   go_meet
   case rel=>exact ⟨_,(true),zE,H',⟨zY⟩,⟨zB BK106⟩,⟨zW HB⟩⟩
  rw [if_neg c6] at H;have c6b0:=decide_eq_false c6;clear c6
  by_cases c8 : a0_0=0
  ·rw [if_pos c8] at H;exact absurd H (by simp)
  rw [if_neg c8] at H;have c8b0 : (a0_0 == 0)=false:=beq_eq_false_iff_ne.mpr c8;have c8b1 : (a0_0 != 0)=true:=bne_iff_ne.mpr c8
  by_cases c9 : ((l0_1.length : Int) % a0_0)=0
  ·rw [if_pos c9] at H;have c9b0 : (((l0_1.length : Int) % a0_0) == 0)=true:=beq_iff_eq.mpr c9;have c9b1 : (((l0_1.length : Int) % a0_0) != 0)=false:=bne_eq_false_iff_eq.mpr c9;clear c9;have H':=zo H;clear H;obtain ⟨hcz10_0,hfz10_0,hcz10_1,hfz10_1⟩:=zn2 BK106
   go_wp2
   go_meet
   case rel=>exact ⟨_,(decide ((wrap64 ((l0_1.length : Int) / a0_0))>65536)),zE,H',⟨zY⟩,⟨zB BK106⟩,⟨zW HB⟩⟩
  rw [if_neg c9] at H;have c9b0 : (((l0_1.length : Int) % a0_0) == 0)=false:=beq_eq_false_iff_ne.mpr c9;have c9b1 : (((l0_1.length : Int) % a0_0) != 0)=true:=bne_iff_ne.mpr c9;have H':=zo H;clear H;obtain ⟨hcz11_0,hfz11_0,hcz11_1,hfz11_1⟩:=zn2 BK106
  go_wp2
  go_meet
  case rel=>exact ⟨_,(true),zE,H',⟨zY⟩,⟨zB BK106⟩,⟨zW HB⟩⟩
 case rest=>
  clear HC2
  try clear p2
  try clear c4
  try clear c4b0
  try clear c6
  try clear c6b0
  try clear p6
  try clear c8
  try clear c8b0
  try clear c8b1
  try clear c9
  try clear c9b0
  try clear c9b1
  obtain ⟨kq,x30_1,rfl,HA,HJ1,BK106,HB⟩:=hcut
  cases kq with
  | zero=>exact absurd HA.out (by simp [sample_Valid.j0])
  | succ kj1=>
   have H:=HA.out;clear HA;simp only [sample_Valid.j0] at H
   by_cases c12 : x30_1=true
   ·subst c12;have H1:=H;rw [if_pos rfl] at H1;clear H;have H:=H1;clear H1;obtain rfl:=Option.some.inj H
    go_wp2
    go_ret
    exact ⟨zX,zW HB⟩
   replace c12:=Bool.eq_false_iff.mpr c12;subst c12;have H1:=H;rw [if_neg (show ¬ (false=true) by decide)] at H1;clear H;have H:=H1;clear H1;have H':=zo H;clear H;obtain ⟨hcz13_0,hfz13_0,hcz13_1,hfz13_1⟩:=zn2 BK106
   go_wp2
   go_loopg [34] kj1 (fun kq v34 w'=>∃ (x34_2 : Int),v34 = .int .i64 x34_2∧Aside0 (sample_Valid.l0 kq l0_1 (l0_1.length : Int) x34_2=some r)∧Aside0 (kq≤kj1)∧Aside0 (w'.heap[gb106]?=some (.cells #[.int .i64 a0_0,(.slice A0_1 l0_1.length c0_1)] 43 (0,0)))∧Aside0 (Below w.heap.size w w'))
   case atStart=>exact ⟨(0),zE,H',⟨Nat.le_refl _⟩,⟨zB BK106⟩,⟨zW HB⟩⟩
   case round=>
    clear H'
    try clear c1
    try clear p2
    try clear c4
    try clear c4b0
    try clear c6
    try clear c6b0
    try clear p6
    try clear c8
    try clear c8b0
    try clear c8b1
    try clear c9
    try clear c9b0
    try clear c9b1
    try clear c12
    try clear p2
    try clear p6
    obtain ⟨x34_2,rfl,HA,HK2,BK106,HB⟩:=hrel
    cases gk with
    | zero=>exact absurd HA.out (by simp [sample_Valid.l0])
    | succ k2=>
     have H:=HA.out;clear HA;simp only [sample_Valid.l0] at H
     by_cases c14 : x34_2<(l0_1.length : Int)
     rotate_left
     ·rw [if_neg c14] at H;have c14b0:=decide_eq_false c14;clear c14;obtain rfl:=Option.some.inj H
      go_wp2
      go_ret
      exact ⟨zX,zW HB⟩
     rw [if_pos c14] at H;have c14b0:=decide_eq_true c14;clear c14
     by_cases c15 : 0≤x34_2
     rotate_left
     ·rw [if_neg c15] at H;exact absurd H (by simp)
     rw [if_pos c15] at H;have c15b0:=decide_eq_true c15;clear c15
     by_cases c16 : x34_2<(l0_1.length : Int)
     rotate_left
     ·rw [if_neg c16] at H;exact absurd H (by simp)
     rw [if_pos c16] at H;have c16b0:=decide_eq_true c16;clear c16;replace H:=Option.bind_eq_some_iff.mp H;obtain ⟨t108,A170,H⟩:=H
     try dsimp only at H
     have A17:=zo A170;clear A170
     by_cases c18 : t108=true
     ·subst c18;have H1:=H;rw [if_pos rfl] at H1;clear H;have H:=H1;clear H1;have H':=zo H;clear H;have p107 : 0≤(x34_2 : Int):=zD;have q107 : x34_2<(l0_1.length : Int):=zD;obtain ⟨ad107,e107,hx107_0⟩:=Kd.at_int HR0_1.out x34_2 p107 q107
      cases e107
      (try (replace hx107_0:=(HB.out.cell (World.block_lt_of_cell? w _ hx107_0)).trans hx107_0));replace p107:=eq_true p107;replace q107:=eq_true q107
      go_wp2_with (first|((with_reducible refine gate_callee (f:=67) rfl ?_);refine goesL_ (some 39) rfl rfl Try.func67 zk rfl #[.int .i32 (rd l0_1 x34_2)] rfl zA ?_;(with_reducible refine (sample_is.calls (rd l0_1 x34_2) true _ A17.out).mono ?_);rintro e w' ⟨rfl,⟨nd,rfl⟩⟩;refine ⟨_,rfl,?_⟩))
      go_roundg k2
      case measure=>have:=HJ1.out;have:=HK2.out;omega
      case rel=>exact ⟨(wrap64 (x34_2+1)),zE,H',⟨by have:=HJ1.out;have:=HK2.out;omega⟩,⟨zB BK106⟩,⟨zW HB⟩⟩
     replace c18:=Bool.eq_false_iff.mpr c18;subst c18;have H1:=H;rw [if_neg (show ¬ (false=true) by decide)] at H1;clear H;have H:=H1;clear H1;obtain rfl:=Option.some.inj H;have p107 : 0≤(x34_2 : Int):=zD;have q107 : x34_2<(l0_1.length : Int):=zD;obtain ⟨ad107,e107,hx107_0⟩:=Kd.at_int HR0_1.out x34_2 p107 q107
     cases e107
     (try (replace hx107_0:=(HB.out.cell (World.block_lt_of_cell? w _ hx107_0)).trans hx107_0));replace p107:=eq_true p107;replace q107:=eq_true q107
     go_wp2_with (first|((with_reducible refine gate_callee (f:=67) rfl ?_);refine goesL_ (some 39) rfl rfl Try.func67 zk rfl #[.int .i32 (rd l0_1 x34_2)] rfl zA ?_;(with_reducible refine (sample_is.calls (rd l0_1 x34_2) false _ A17.out).mono ?_);rintro e w' ⟨rfl,⟨nd,rfl⟩⟩;refine ⟨_,rfl,?_⟩))
     go_ret
     exact ⟨zX,zW HB⟩

def gain_slope_gain.f (a0_0 : Int) (a0_1 : Int) (a0_2 : Int) (a0_3 : Int) (a1 : Int) : Option (Int):=if a1 ≥ (wrap64 (a0_2 - a0_3)) then (some a0_1) else (if a0_2=0 then (none) else (if (Int.tmod (wrap64 ((wrap64 (a0_1 - a0_0))*(wrap64 (a0_3+a1)))) a0_2)<0 then (some (wrap64 (a0_0+(wrap64 ((wrap64 (Int.tdiv (wrap64 ((wrap64 (a0_1 - a0_0))*(wrap64 (a0_3+a1)))) a0_2)) - 1))))) else (some (wrap64 (a0_0+(wrap64 (Int.tdiv (wrap64 ((wrap64 (a0_1 - a0_0))*(wrap64 (a0_3+a1)))) a0_2)))))))
set_option maxHeartbeats 8000000 in
set_option maxRecDepth 100000 in
theorem gain_slope_gain.calls (a0_0 : Int) (a0_1 : Int) (a0_2 : Int) (a0_3 : Int) (a1 : Int) (r : Int) (w : World) (h : gain_slope_gain.f a0_0 a0_1 a0_2 a0_3 a1=some r) :
  Calls Try.prog 63 #[.agg #[.int .i64 a0_0,.int .i64 a0_1,.int .i64 a0_2,.int .i64 a0_3],.int .i64 a1] w fun e w'=>e = .returned (.int .i64 r)∧Below w.heap.size w w':=by
 have hu98:=Try.underlying98;have HB:=zo (Below.refl w.heap.size w);have H:=h;unfold gain_slope_gain.f at H;clear h
 by_cases c3 : a1 ≥ (wrap64 (a0_2 - a0_3))
 ·rw [if_pos c3] at H;have c3b0:=decide_eq_true c3;clear c3;obtain rfl:=Option.some.inj H
  go_enter Try.func63,Try.ntmps63
  go_wp2_with (first|((with_reducible refine gate_dst (N:=2) rfl ?_);refine box_event ?hg (N:=2) ?hd (cs:=#[.int .i64 a0_0,.int .i64 a0_1,.int .i64 a0_2,.int .i64 a0_3]) (t:=98) ?hr ?_;(case hd=>rfl);(case hg=>rfl);(case hr=>first|(go_simp;done)|(go_simp;rfl));intro gb109 hg w4 hbox hb;have BK109:=zo hbox;have GW109:=zo (zS hg HB);have GE109:=zo (zS hg HB);replace HB:=zo (below_step (zW HB) hb);clear hb hbox hg;obtain ⟨hcz5_0,hfz5_0,hcz5_1,hfz5_1,hcz5_2,hfz5_2,hcz5_3,hfz5_3⟩:=zn4 BK109))
  go_ret
  exact ⟨zX,zW HB⟩
 rw [if_neg c3] at H;have c3b0:=decide_eq_false c3;clear c3
 by_cases c6 : a0_2=0
 ·rw [if_pos c6] at H;exact absurd H (by simp)
 rw [if_neg c6] at H;have c6b0 : (a0_2 == 0)=false:=beq_eq_false_iff_ne.mpr c6;have c6b1 : (a0_2 != 0)=true:=bne_iff_ne.mpr c6
 by_cases c7 : (Int.tmod (wrap64 ((wrap64 (a0_1 - a0_0))*(wrap64 (a0_3+a1)))) a0_2)<0
 ·rw [if_pos c7] at H;have c7b0 : decide ((Int.tmod (wrap64 ((wrap64 (a0_1 - a0_0))*(wrap64 (a0_3+a1)))) a0_2)<0)=true:=decide_eq_true c7;clear c7;obtain rfl:=Option.some.inj H
  go_enter Try.func63,Try.ntmps63
  go_wp2_with (first|((with_reducible refine gate_dst (N:=2) rfl ?_);refine box_event ?hg (N:=2) ?hd (cs:=#[.int .i64 a0_0,.int .i64 a0_1,.int .i64 a0_2,.int .i64 a0_3]) (t:=98) ?hr ?_;(case hd=>rfl);(case hg=>rfl);(case hr=>first|(go_simp;done)|(go_simp;rfl));intro gb109 hg w8 hbox hb;have BK109:=zo hbox;have GW109:=zo (zS hg HB);have GE109:=zo (zS hg HB);replace HB:=zo (below_step (zW HB) hb);clear hb hbox hg;obtain ⟨hcz9_0,hfz9_0,hcz9_1,hfz9_1,hcz9_2,hfz9_2,hcz9_3,hfz9_3⟩:=zn4 BK109))
  go_ret
  exact ⟨zX,zW HB⟩
 rw [if_neg c7] at H;have c7b0 : decide ((Int.tmod (wrap64 ((wrap64 (a0_1 - a0_0))*(wrap64 (a0_3+a1)))) a0_2)<0)=false:=decide_eq_false c7;clear c7;obtain rfl:=Option.some.inj H
 go_enter Try.func63,Try.ntmps63
 go_wp2_with (first|((with_reducible refine gate_dst (N:=2) rfl ?_);refine box_event ?hg (N:=2) ?hd (cs:=#[.int .i64 a0_0,.int .i64 a0_1,.int .i64 a0_2,.int .i64 a0_3]) (t:=98) ?hr ?_;(case hd=>rfl);(case hg=>rfl);(case hr=>first|(go_simp;done)|(go_simp;rfl));intro gb109 hg w10 hbox hb;have BK109:=zo hbox;have GW109:=zo (zS hg HB);have GE109:=zo (zS hg HB);replace HB:=zo (below_step (zW HB) hb);clear hb hbox hg;obtain ⟨hcz11_0,hfz11_0,hcz11_1,hfz11_1,hcz11_2,hfz11_2,hcz11_3,hfz11_3⟩:=zn4 BK109))
 go_ret
 exact ⟨zX,zW HB⟩

def sample_Sat.f (a0 : Int) : Option (Int):=some (mx (-8388608) (mn 8388607 a0))
set_option maxHeartbeats 8000000 in
set_option maxRecDepth 100000 in
theorem sample_Sat.calls (a0 : Int) (r : Int) (w : World) (h : sample_Sat.f a0=some r) :
  Calls Try.prog 59 #[.int .i64 a0] w fun e w'=>e = .returned (.int .i32 r)∧Below w.heap.size w w':=by
 have HB:=zo (Below.refl w.heap.size w);have H:=h;unfold sample_Sat.f at H;clear h;obtain ⟨ji2,hji2⟩ : ∃ j_ : Int,(mn 8388607 a0)=j_:=⟨_,rfl⟩;(first|rw [hji2] at H|simp only [hji2] at H);(try (have hji2h : ji2≤8388607:=by (rw [← hji2];unfold mn;(repeat' split) <;> omega)));(try (have hji2g : ji2≤64:=by omega));have hji2_ : (if a0<8388607 then a0 else 8388607)=ji2:=hji2;obtain ⟨ji3,hji3⟩ : ∃ j_ : Int,(mx (-8388608) (ji2))=j_:=⟨_,rfl⟩;(first|rw [hji3] at H|simp only [hji3] at H);have hji3_ : (if (-8388608)<(ji2) then (ji2) else (-8388608))=ji3:=hji3;obtain rfl:=Option.some.inj H
 go_enter Try.func59,Try.ntmps59
 go_wp2
 go_ret
 exact ⟨by first|rfl|(simp [errW_none,errW_some] <;> rfl)|(simp only [← hji2,← hji3];first|rfl|(simp [errW_none,errW_some] <;> rfl))|(simp [*,errW_none,errW_some] <;> rfl),zW HB⟩

def gain_Apply.f (a0 : Int) (a1 : Int) : Option (Int):=if a0<(-8388608) then (some 0) else (if a0>8388607 then (some 0) else ((gain_is.f a1).bind fun t110=>(if t110=true then ((sample_Sat.f ((wrap64 ((wrap64 ((wrap64 (a0))*a1))+32768)) / 65536)).bind fun t111=>(some t111)) else (some 0))))
set_option maxHeartbeats 8000000 in
set_option maxRecDepth 100000 in
theorem gain_Apply.calls (a0 : Int) (a1 : Int) (r : Int) (w : World) (h : gain_Apply.f a0 a1=some r) :
  Calls Try.prog 64 #[.int .i32 a0,.int .i64 a1] w fun e w'=>e = .returned (.int .i32 r)∧Below w.heap.size w w':=by
 have HB:=zo (Below.refl w.heap.size w);have H:=h;unfold gain_Apply.f at H;clear h
 by_cases c3 : a0<(-8388608)
 ·rw [if_pos c3] at H;have c3b0:=decide_eq_true c3;clear c3;obtain rfl:=Option.some.inj H
  go_enter Try.func64,Try.ntmps64
  go_wp2
  go_ret
  exact ⟨zX,zW HB⟩
 rw [if_neg c3] at H;have c3b0:=decide_eq_false c3;clear c3
 by_cases c4 : a0>8388607
 ·rw [if_pos c4] at H;have c4b0:=decide_eq_true c4;clear c4;obtain rfl:=Option.some.inj H
  go_enter Try.func64,Try.ntmps64
  go_wp2
  go_ret
  exact ⟨zX,zW HB⟩
 rw [if_neg c4] at H;have c4b0:=decide_eq_false c4;clear c4;replace H:=Option.bind_eq_some_iff.mp H;obtain ⟨t110,A50,H⟩:=H
 try dsimp only at H
 have A5:=zo A50;clear A50
 by_cases c6 : t110=true
 rotate_left
 ·replace c6:=Bool.eq_false_iff.mpr c6;subst c6;have H1:=H;rw [if_neg (show ¬ (false=true) by decide)] at H1;clear H;have H:=H1;clear H1;obtain rfl:=Option.some.inj H
  go_enter Try.func64,Try.ntmps64
  go_wp2_with (first|(go_at_call 70;(with_reducible refine (gain_is.calls a1 false _ A5.out).mono ?_);rintro e w' ⟨rfl,⟨nd,rfl⟩⟩))
  go_ret
  exact ⟨zX,zW HB⟩
 subst c6;have H1:=H;rw [if_pos rfl] at H1;clear H;have H:=H1;clear H1;replace H:=Option.bind_eq_some_iff.mp H;obtain ⟨t111,A70,H⟩:=H
 try dsimp only at H
 have A7:=zo A70;clear A70;obtain rfl:=Option.some.inj H
 go_enter Try.func64,Try.ntmps64
 go_wp2_with (first|(go_at_call 70;(with_reducible refine (gain_is.calls a1 true _ A5.out).mono ?_);rintro e w' ⟨rfl,⟨nd,rfl⟩⟩)|((with_reducible refine gate_callee (f:=59) rfl ?_);refine goesL_ (some 22) rfl rfl Try.func59 zk rfl #[.int .i64 ((wrap64 ((wrap64 ((wrap64 (a0))*a1))+32768)) / 65536)] rfl zA ?_;(with_reducible refine (sample_Sat.calls ((wrap64 ((wrap64 ((wrap64 (a0))*a1))+32768)) / 65536) t111 _ A7.out).mono ?_);rintro e w8 ⟨rfl,hb⟩;refine ⟨_,rfl,?_⟩;replace HB:=zo (below_step (zW HB) hb);(try clear hb)))
 go_ret
 exact ⟨zX,zW HB⟩

end Go.Proofs.Ytcnmemcclhahnaa.QT
