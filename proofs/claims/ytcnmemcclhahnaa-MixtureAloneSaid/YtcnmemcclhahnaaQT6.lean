-- Written by a program of this session, out of the seat's translation; checked by the kernel alone.
import Derived.Test.YtcnmemcclhahnaaQT0
import Derived.Test.YtcnmemcclhahnaaQT2
import Derived.Test.YtcnmemcclhahnaaQT3
import Derived.Test.YtcnmemcclhahnaaQT4
import Derived.Test.YtcnmemcclhahnaaQT5
namespace Go.Proofs.Ytcnmemcclhahnaa.QT
open Go.RowKit Go.Proofs.YtcnmemcclhahnaaW.PrintWords Go.Proofs.YtcnmemcclhahnaaW.PrintLast Go.Proofs.YtcnmemcclhahnaaW.PrintMore
attribute [local go_sem] max2_int min2_int max_two min_two max_three min_three max_four min_four   -- for this text's walks alone
set_option linter.unusedVariables false
set_option linter.unusedSimpArgs false

mutual
def mixture_pass.j0 : Nat→Int→Int→Bool→Int→List Int→Int→Int→List Int→Int→Int→Int→Int→Option (Int×List Int×Int)
 | 0,_,_,_,_,_,_,_,_,_,_,_,_=>none
 | k+1,x1,x2,x12,x162000,x162001,x162002,x162003,x162004,x162005,x162006,x162007,x162008=>if x12=true then (some (0,([] : List Int),1)) else (if x162002=x162000 then (mixture_pass.j1 k x2 (x162003 != x1) x162000 x162001 x162002 x162003 x162004 x162005 x162006 x162007 x162008) else (mixture_pass.j1 k x2 true x162000 x162001 x162002 x162003 x162004 x162005 x162006 x162007 x162008))
def mixture_pass.j1 : Nat→Int→Bool→Int→List Int→Int→Int→List Int→Int→Int→Int→Int→Option (Int×List Int×Int)
 | 0,_,_,_,_,_,_,_,_,_,_,_=>none
 | k+1,x2,x30,x162000,x162001,x162002,x162003,x162004,x162005,x162006,x162007,x162008=>if x30=true then (some (0,([] : List Int),11)) else ((sample_Frames.f k x162000 x162001).bind fun t166=>(if t166>x2 then (some (0,([] : List Int),2)) else ((matrix_Apply.f k x162002 x162003 x162004 x162000 x162001).bind fun bt167=>((gain_Run.f k x162005 x162006 x162007 x162008 bt167.1 bt167.2.1).bind fun bt173=>(some (bt173.1,bt173.2.1,bt173.2.2.2.2.2.2))))))
end
def mixture_pass.f (k : Nat) (a0_0 : Int) (l0_1 : List Int) (a0_2 : Int) (a0_3 : Int) (l0_4 : List Int) (a0_5 : Int) (a0_6 : Int) (a0_7 : Int) (a0_8 : Int) (a1 : Int) (a2 : Int) : Option (Int×List Int×Int):=(sample_Valid.f k a0_0 l0_1).bind fun t163=>(if t163=true then ((matrix_Valid.f k a0_2 a0_3 l0_4).bind fun t164=>(if t164=true then ((gain_Valid.f a0_5 a0_6 a0_7 a0_8).bind fun t165=>(mixture_pass.j0 k a1 a2 (!t165) a0_0 l0_1 a0_2 a0_3 l0_4 a0_5 a0_6 a0_7 a0_8)) else (mixture_pass.j0 k a1 a2 true a0_0 l0_1 a0_2 a0_3 l0_4 a0_5 a0_6 a0_7 a0_8))) else (mixture_pass.j0 k a1 a2 true a0_0 l0_1 a0_2 a0_3 l0_4 a0_5 a0_6 a0_7 a0_8))
theorem mixture_pass.mono_l : ∀ k,(∀ y0 y1 y2 y3 y4 y5 y6 y7 y8 y9 y10 y11,LeO (mixture_pass.j0 k y0 y1 y2 y3 y4 y5 y6 y7 y8 y9 y10 y11) (mixture_pass.j0 (k+1) y0 y1 y2 y3 y4 y5 y6 y7 y8 y9 y10 y11))∧(∀ y0 y1 y2 y3 y4 y5 y6 y7 y8 y9 y10,LeO (mixture_pass.j1 k y0 y1 y2 y3 y4 y5 y6 y7 y8 y9 y10) (mixture_pass.j1 (k+1) y0 y1 y2 y3 y4 y5 y6 y7 y8 y9 y10))
 | 0=>⟨fun _ _ _ _ _ _ _ _ _ _ _ _ r h=>by simp [mixture_pass.j0] at h,fun _ _ _ _ _ _ _ _ _ _ _ r h=>by simp [mixture_pass.j1] at h⟩
 | k+1=>by
  obtain ⟨ih0,ih1⟩:=mixture_pass.mono_l k;refine ⟨?_,?_⟩
  ·intro y0 y1 y2 y3 y4 y5 y6 y7 y8 y9 y10 y11;unfold mixture_pass.j0
   repeat' first
   | (with_reducible exact ih0 _ _ _ _ _ _ _ _ _ _ _ _)
   | (with_reducible exact ih1 _ _ _ _ _ _ _ _ _ _ _)
   | (with_reducible exact gain_Run.mono _ _ _ _ _ _ _)
   | (with_reducible exact matrix_Apply.mono _ _ _ _ _ _)
   | (with_reducible exact matrix_Valid.mono _ _ _ _)
   | (with_reducible exact sample_Frames.mono _ _ _)
   | (with_reducible exact sample_Valid.mono _ _ _)
   | (with_reducible exact LeO.refl _)
   | (with_reducible exact LeO.none _)
   | (with_reducible refine LeO.ite ?_ ?_)
   | (with_reducible refine LeO.bind ?_ (fun _=>?_))
   | exact ih0 _ _ _ _ _ _ _ _ _ _ _ _
   | exact ih1 _ _ _ _ _ _ _ _ _ _ _
   | exact gain_Run.mono _ _ _ _ _ _ _
   | exact matrix_Apply.mono _ _ _ _ _ _
   | exact matrix_Valid.mono _ _ _ _
   | exact sample_Frames.mono _ _ _
   | exact sample_Valid.mono _ _ _
   | exact LeO.none _
   | refine LeO.ite ?_ ?_
   | refine LeO.bind ?_ (fun _=>?_)
  ·intro y0 y1 y2 y3 y4 y5 y6 y7 y8 y9 y10;unfold mixture_pass.j1
   repeat' first
   | (with_reducible exact ih0 _ _ _ _ _ _ _ _ _ _ _ _)
   | (with_reducible exact ih1 _ _ _ _ _ _ _ _ _ _ _)
   | (with_reducible exact gain_Run.mono _ _ _ _ _ _ _)
   | (with_reducible exact matrix_Apply.mono _ _ _ _ _ _)
   | (with_reducible exact matrix_Valid.mono _ _ _ _)
   | (with_reducible exact sample_Frames.mono _ _ _)
   | (with_reducible exact sample_Valid.mono _ _ _)
   | (with_reducible exact LeO.refl _)
   | (with_reducible exact LeO.none _)
   | (with_reducible refine LeO.ite ?_ ?_)
   | (with_reducible refine LeO.bind ?_ (fun _=>?_))
   | exact ih0 _ _ _ _ _ _ _ _ _ _ _ _
   | exact ih1 _ _ _ _ _ _ _ _ _ _ _
   | exact gain_Run.mono _ _ _ _ _ _ _
   | exact matrix_Apply.mono _ _ _ _ _ _
   | exact matrix_Valid.mono _ _ _ _
   | exact sample_Frames.mono _ _ _
   | exact sample_Valid.mono _ _ _
   | exact LeO.none _
   | refine LeO.ite ?_ ?_
   | refine LeO.bind ?_ (fun _=>?_)
theorem mixture_pass.mono : ∀ a0 a1 a2 a3 a4 a5 a6 a7 a8 a9 a10 k,LeO (mixture_pass.f k a0 a1 a2 a3 a4 a5 a6 a7 a8 a9 a10) (mixture_pass.f (k+1) a0 a1 a2 a3 a4 a5 a6 a7 a8 a9 a10):=by
 intro a0 a1 a2 a3 a4 a5 a6 a7 a8 a9 a10 k;obtain ⟨ih0,ih1⟩:=mixture_pass.mono_l k;unfold mixture_pass.f
 repeat' first
   | (with_reducible exact ih0 _ _ _ _ _ _ _ _ _ _ _ _)
   | (with_reducible exact ih1 _ _ _ _ _ _ _ _ _ _ _)
   | (with_reducible exact gain_Run.mono _ _ _ _ _ _ _)
   | (with_reducible exact matrix_Apply.mono _ _ _ _ _ _)
   | (with_reducible exact matrix_Valid.mono _ _ _ _)
   | (with_reducible exact sample_Frames.mono _ _ _)
   | (with_reducible exact sample_Valid.mono _ _ _)
   | (with_reducible exact LeO.refl _)
   | (with_reducible exact LeO.none _)
   | (with_reducible refine LeO.ite ?_ ?_)
   | (with_reducible refine LeO.bind ?_ (fun _=>?_))
   | exact ih0 _ _ _ _ _ _ _ _ _ _ _ _
   | exact ih1 _ _ _ _ _ _ _ _ _ _ _
   | exact gain_Run.mono _ _ _ _ _ _ _
   | exact matrix_Apply.mono _ _ _ _ _ _
   | exact matrix_Valid.mono _ _ _ _
   | exact sample_Frames.mono _ _ _
   | exact sample_Valid.mono _ _ _
   | exact LeO.none _
   | refine LeO.ite ?_ ?_
   | refine LeO.bind ?_ (fun _=>?_)
set_option maxHeartbeats 8000000 in
set_option maxRecDepth 100000 in
theorem mixture_pass.calls (k : Nat) (a0_0 : Int) (A0_1 : Option Addr) (c0_1 : Nat) (l0_1 : List Int) (a0_2 : Int) (a0_3 : Int) (A0_4 : Option Addr) (c0_4 : Nat) (l0_4 : List Int) (a0_5 : Int) (a0_6 : Int) (a0_7 : Int) (a0_8 : Int) (a1 : Int) (a2 : Int) (r1 : Int) (r2 : List Int) (r3 : Int) (w : World) (hr0_1 : Kd.C (Kd.int .i32) w A0_1 l0_1.length l0_1) (hc0_1 : l0_1.length≤c0_1) (hr0_4 : Kd.C (Kd.int .i64) w A0_4 l0_4.length l0_4) (hc0_4 : l0_4.length≤c0_4) (h : mixture_pass.f k a0_0 l0_1 a0_2 a0_3 l0_4 a0_5 a0_6 a0_7 a0_8 a1 a2=some (r1,r2,r3)) :
  Calls Try.prog 32 #[.agg #[.int .i64 a0_0,.slice A0_1 l0_1.length c0_1,.int .i64 a0_2,.int .i64 a0_3,.slice A0_4 l0_4.length c0_4,.int .i64 a0_5,.int .i64 a0_6,.int .i64 a0_7,.int .i64 a0_8],.int .i64 a1,.int .i64 a2] w fun e w'=>∃ v1_ : Value,e = .returned (.tuple #[.agg #[.int .i64 r1,v1_],.int .i64 r3])∧Kd.R (Kd.int .i32) 21 w' w.heap.size (fun _=>True) v1_ r2∧Below w.heap.size w w':=by
 have hu54:=Try.underlying54;have hu43:=Try.underlying43;have hu50:=Try.underlying50;have hu52:=Try.underlying52;have HR0_1:=zo hr0_1;have HC0_1:=zo hc0_1;clear hr0_1 hc0_1;have HR0_4:=zo hr0_4;have HC0_4:=zo hc0_4;clear hr0_4 hc0_4;have HB:=zo (Below.refl w.heap.size w);have H:=h;unfold mixture_pass.f at H;clear h;have HC4:=zo H;clear H
 go_enter Try.func32,Try.ntmps32
 go_upto_region 1 with (first|((with_reducible refine gate_dst (N:=3) rfl ?_);refine box_event ?hg (N:=3) ?hd (cs:=#[.int .i64 a0_0,.slice A0_1 l0_1.length c0_1,.int .i64 a0_2,.int .i64 a0_3,.slice A0_4 l0_4.length c0_4,.int .i64 a0_5,.int .i64 a0_6,.int .i64 a0_7,.int .i64 a0_8]) (t:=54) ?hr ?_;(case hd=>rfl);(case hg=>rfl);(case hr=>first|(go_simp;done)|(go_simp;rfl));intro gb161 hg w5 hbox hb;have BK161:=zo hbox;have GW161:=zo (zS hg HB);have GE161:=zo (zS hg HB);replace HB:=zo (below_step (zW HB) hb);clear hb hbox hg)|((with_reducible refine gate_dst (N:=6) rfl ?_);refine box_event ?hg (N:=6) ?hd (cs:=#[.int .i64 0,.slice none 0 0]) (t:=43) ?hr ?_;(case hd=>rfl);(case hg=>rfl);(case hr=>first|(go_simp;done)|(go_simp;rfl));intro gb162 hg w6 hbox hb;have BK162:=zo hbox;have GW162:=zo (zS hg HB);have GE162:=zo (zS hg HB);replace HB:=zo (below_step (zW HB) hb);have NB161_162:=zo (zL hg BK161);have NB162_161:=zo (zG hg BK161);replace BK161:=zo (blk_below (zB BK161) hb);clear hb hbox hg))
 (try simp only [Act.put,List.setIfInBounds_toArray,List.set_cons_zero,List.set_cons_succ])
 go_cut [12] (fun v12 wc=>∃ (kq : Nat) (x12_3 : Bool),v12 = .bool x12_3∧Aside0 (mixture_pass.j0 kq a1 a2 x12_3 a0_0 l0_1 a0_2 a0_3 l0_4 a0_5 a0_6 a0_7 a0_8=some (r1,r2,r3))∧Aside0 (kq≤k)∧Aside0 (wc.heap[gb161]?=some (.cells #[.int .i64 a0_0,(.slice A0_1 l0_1.length c0_1),.int .i64 a0_2,.int .i64 a0_3,(.slice A0_4 l0_4.length c0_4),.int .i64 a0_5,.int .i64 a0_6,.int .i64 a0_7,.int .i64 a0_8] 54 (0,0)))∧Aside0 (wc.heap[gb162]?=some (.cells #[.int .i64 0,(.slice none 0 0)] 43 (0,0)))∧Aside0 (Below w.heap.size w wc))
 case first=>
  have H:=HC4.out;clear HC4;replace H:=Option.bind_eq_some_iff.mp H;obtain ⟨t163,A70,H⟩:=H
  try dsimp only at H
  have A7:=zo A70;clear A70
  by_cases c8 : t163=true
  rotate_left
  ·replace c8:=Bool.eq_false_iff.mpr c8;subst c8;have H1:=H;rw [if_neg (show ¬ (false=true) by decide)] at H1;clear H;have H:=H1;clear H1;have H':=zo H;clear H;have hnb24:=NB161_162.out;have hnc24:=NB162_161.out;obtain ⟨hcz25_0,hfz25_0,hcz25_1,hfz25_1,hcz25_2,hfz25_2,hcz25_3,hfz25_3,hcz25_4,hfz25_4,hcz25_5,hfz25_5,hcz25_6,hfz25_6,hcz25_7,hfz25_7,hcz25_8,hfz25_8⟩:=zn9 BK161
   go_wp2_with (first|((with_reducible refine gate_callee (f:=48) rfl ?_);refine goesL_ (some 15) rfl rfl Try.func48 zk rfl #[.agg #[.int .i64 a0_0,.slice A0_1 l0_1.length c0_1]] rfl zA ?_;(with_reducible refine (sample_Valid.calls k a0_0 _ _ l0_1 false _ ?side1 ?side2 A7.out).mono ?_);(case side1=>repeat (first|exact (Kd.C_below HR0_1.out HB.out)|(with_reducible refine Kd.C_alloc ?_ _)|(with_reducible refine Kd.C_drewN ?_ _)|(with_reducible refine Kd.C_drew ?_)));(case side2=>exact HC0_1.out);rintro e w26 ⟨rfl,hb⟩;refine ⟨_,rfl,?_⟩;replace BK161:=zo (blk_below (zB BK161) hb);replace BK162:=zo (blk_below (zB BK162) hb);replace HB:=zo (below_step (zW HB) hb);(try clear hb)))
   go_meet
   case rel=>exact ⟨_,(true),zE,H',⟨zY⟩,⟨zB BK161⟩,⟨zB BK162⟩,⟨zW HB⟩⟩
  subst c8;have H1:=H;rw [if_pos rfl] at H1;clear H;have H:=H1;clear H1;replace H:=Option.bind_eq_some_iff.mp H;obtain ⟨t164,A90,H⟩:=H
  try dsimp only at H
  have A9:=zo A90;clear A90
  by_cases c10 : t164=true
  rotate_left
  ·replace c10:=Bool.eq_false_iff.mpr c10;subst c10;have H1:=H;rw [if_neg (show ¬ (false=true) by decide)] at H1;clear H;have H:=H1;clear H1;have H':=zo H;clear H;have hnb19:=NB161_162.out;have hnc19:=NB162_161.out;obtain ⟨hcz20_0,hfz20_0,hcz20_1,hfz20_1,hcz20_2,hfz20_2,hcz20_3,hfz20_3,hcz20_4,hfz20_4,hcz20_5,hfz20_5,hcz20_6,hfz20_6,hcz20_7,hfz20_7,hcz20_8,hfz20_8⟩:=zn9 BK161
   go_wp2_with (first|((with_reducible refine gate_callee (f:=48) rfl ?_);refine goesL_ (some 15) rfl rfl Try.func48 zk rfl #[.agg #[.int .i64 a0_0,.slice A0_1 l0_1.length c0_1]] rfl zA ?_;(with_reducible refine (sample_Valid.calls k a0_0 _ _ l0_1 true _ ?side1 ?side2 A7.out).mono ?_);(case side1=>repeat (first|exact (Kd.C_below HR0_1.out HB.out)|(with_reducible refine Kd.C_alloc ?_ _)|(with_reducible refine Kd.C_drewN ?_ _)|(with_reducible refine Kd.C_drew ?_)));(case side2=>exact HC0_1.out);rintro e w21 ⟨rfl,hb⟩;refine ⟨_,rfl,?_⟩;replace BK161:=zo (blk_below (zB BK161) hb);replace BK162:=zo (blk_below (zB BK162) hb);replace HB:=zo (below_step (zW HB) hb);(try clear hb);obtain ⟨hcz22_0,hfz22_0,hcz22_1,hfz22_1,hcz22_2,hfz22_2,hcz22_3,hfz22_3,hcz22_4,hfz22_4,hcz22_5,hfz22_5,hcz22_6,hfz22_6,hcz22_7,hfz22_7,hcz22_8,hfz22_8⟩:=zn9 BK161)|(go_at_call 49;(with_reducible refine (matrix_Valid.calls k a0_2 a0_3 _ _ l0_4 false _ ?side1 ?side2 A9.out).mono ?_);(case side1=>repeat (first|exact (Kd.C_below HR0_4.out HB.out)|(with_reducible refine Kd.C_alloc ?_ _)|(with_reducible refine Kd.C_drewN ?_ _)|(with_reducible refine Kd.C_drew ?_)));(case side2=>exact HC0_4.out);rintro e w23 ⟨rfl,hb⟩;replace BK161:=zo (blk_below (zB BK161) hb);replace BK162:=zo (blk_below (zB BK162) hb);replace HB:=zo (below_step (zW HB) hb);(try clear hb)))
   go_meet
   case rel=>exact ⟨_,(true),zE,H',⟨zY⟩,⟨zB BK161⟩,⟨zB BK162⟩,⟨zW HB⟩⟩
  subst c10;have H1:=H;rw [if_pos rfl] at H1;clear H;have H:=H1;clear H1;replace H:=Option.bind_eq_some_iff.mp H;obtain ⟨t165,A110,H⟩:=H
  try dsimp only at H
  have A11:=zo A110;clear A110;have H':=zo H;clear H;have hnb12:=NB161_162.out;have hnc12:=NB162_161.out;obtain ⟨hcz13_0,hfz13_0,hcz13_1,hfz13_1,hcz13_2,hfz13_2,hcz13_3,hfz13_3,hcz13_4,hfz13_4,hcz13_5,hfz13_5,hcz13_6,hfz13_6,hcz13_7,hfz13_7,hcz13_8,hfz13_8⟩:=zn9 BK161
  go_wp2_with (first|((with_reducible refine gate_callee (f:=48) rfl ?_);refine goesL_ (some 15) rfl rfl Try.func48 zk rfl #[.agg #[.int .i64 a0_0,.slice A0_1 l0_1.length c0_1]] rfl zA ?_;(with_reducible refine (sample_Valid.calls k a0_0 _ _ l0_1 true _ ?side1 ?side2 A7.out).mono ?_);(case side1=>repeat (first|exact (Kd.C_below HR0_1.out HB.out)|(with_reducible refine Kd.C_alloc ?_ _)|(with_reducible refine Kd.C_drewN ?_ _)|(with_reducible refine Kd.C_drew ?_)));(case side2=>exact HC0_1.out);rintro e w14 ⟨rfl,hb⟩;refine ⟨_,rfl,?_⟩;replace BK161:=zo (blk_below (zB BK161) hb);replace BK162:=zo (blk_below (zB BK162) hb);replace HB:=zo (below_step (zW HB) hb);(try clear hb);obtain ⟨hcz15_0,hfz15_0,hcz15_1,hfz15_1,hcz15_2,hfz15_2,hcz15_3,hfz15_3,hcz15_4,hfz15_4,hcz15_5,hfz15_5,hcz15_6,hfz15_6,hcz15_7,hfz15_7,hcz15_8,hfz15_8⟩:=zn9 BK161)|(go_at_call 49;(with_reducible refine (matrix_Valid.calls k a0_2 a0_3 _ _ l0_4 true _ ?side1 ?side2 A9.out).mono ?_);(case side1=>repeat (first|exact (Kd.C_below HR0_4.out HB.out)|(with_reducible refine Kd.C_alloc ?_ _)|(with_reducible refine Kd.C_drewN ?_ _)|(with_reducible refine Kd.C_drew ?_)));(case side2=>exact HC0_4.out);rintro e w16 ⟨rfl,hb⟩;replace BK161:=zo (blk_below (zB BK161) hb);replace BK162:=zo (blk_below (zB BK162) hb);replace HB:=zo (below_step (zW HB) hb);(try clear hb);obtain ⟨hcz17_0,hfz17_0,hcz17_1,hfz17_1,hcz17_2,hfz17_2,hcz17_3,hfz17_3,hcz17_4,hfz17_4,hcz17_5,hfz17_5,hcz17_6,hfz17_6,hcz17_7,hfz17_7,hcz17_8,hfz17_8⟩:=zn9 BK161)|(go_at_call 39;(with_reducible refine (gain_Valid.calls a0_5 a0_6 a0_7 a0_8 t165 _ A11.out).mono ?_);rintro e w18 ⟨rfl,hb⟩;replace BK161:=zo (blk_below (zB BK161) hb);replace BK162:=zo (blk_below (zB BK162) hb);replace HB:=zo (below_step (zW HB) hb);(try clear hb)))
  go_meet
  case rel=>exact ⟨_,(!t165),zE,H',⟨zY⟩,⟨zB BK161⟩,⟨zB BK162⟩,⟨zW HB⟩⟩
 case rest=>
  clear HC4
  try clear c1
  try clear c2
  try clear p2
  try clear c3
  try clear c4
  try clear c8
  try clear c10
  try clear c12
  try clear c19
  try clear c24
  obtain ⟨kq,x12_3,rfl,HA,HJ3,BK161,BK162,HB⟩:=hcut
  cases kq with
  | zero=>exact absurd HA.out (by simp [mixture_pass.j0])
  | succ kj3=>
   have H:=HA.out;clear HA;simp only [mixture_pass.j0] at H
   by_cases c27 : x12_3=true
   ·subst c27;have H1:=H;rw [if_pos rfl] at H1;clear H;have H:=H1;clear H1;simp only [Option.some.injEq,Prod.mk.injEq] at H;obtain ⟨rfl,rfl,rfl⟩:=H;have hnb28:=NB162_161.out;have hnc28:=NB161_162.out;obtain ⟨hcz29_0,hfz29_0,hcz29_1,hfz29_1⟩:=zn2 BK162
    go_wp2
    refine bodyPost_ret (results_ct rfl _ _ gb162 43 #[.int .i64 0,.slice none 0 0] (0,0) _ rfl (zB BK162) Try.underlying43 rfl zk) rfl ?_;exact ⟨_,zX,by first|exact Kd.R_nil _ _ _ _ _|exact Kd.N_nil _ _ _ _ _|exact Kd.V_nil _ _ _ _ _|exact Kd.Q_nil _ _ _ _ _|exact Kd.S_nil _ _ _ _ _,zW HB⟩
   replace c27:=Bool.eq_false_iff.mpr c27;subst c27;have H1:=H;rw [if_neg (show ¬ (false=true) by decide)] at H1;clear H;have H:=H1;clear H1;have HC30:=zo H;clear H
   go_upto_region 3 with (fail)
   go_cut [30] (fun v30 wc=>∃ (kq : Nat) (x30_29 : Bool),v30 = .bool x30_29∧Aside0 (mixture_pass.j1 kq a2 x30_29 a0_0 l0_1 a0_2 a0_3 l0_4 a0_5 a0_6 a0_7 a0_8=some (r1,r2,r3))∧Aside0 (kq≤kj3)∧Aside0 (wc.heap[gb161]?=some (.cells #[.int .i64 a0_0,(.slice A0_1 l0_1.length c0_1),.int .i64 a0_2,.int .i64 a0_3,(.slice A0_4 l0_4.length c0_4),.int .i64 a0_5,.int .i64 a0_6,.int .i64 a0_7,.int .i64 a0_8] 54 (0,0)))∧Aside0 (wc.heap[gb162]?=some (.cells #[.int .i64 0,(.slice none 0 0)] 43 (0,0)))∧Aside0 (Below w.heap.size w wc))
   case first=>
    have H:=HC30.out;clear HC30
    by_cases c31 : a0_2=a0_0
    ·rw [if_pos c31] at H;have c31b0 : (a0_2 == a0_0)=true:=beq_iff_eq.mpr c31;have c31b1 : (a0_2 != a0_0)=false:=bne_eq_false_iff_eq.mpr c31;clear c31;(first|rw [c31b0]|(simp only [i64_w,i32_w];rw [c31b0])|skip);have H':=zo H;clear H;have hnb32:=NB161_162.out;have hnc32:=NB162_161.out;obtain ⟨hcz33_0,hfz33_0,hcz33_1,hfz33_1,hcz33_2,hfz33_2,hcz33_3,hfz33_3,hcz33_4,hfz33_4,hcz33_5,hfz33_5,hcz33_6,hfz33_6,hcz33_7,hfz33_7,hcz33_8,hfz33_8⟩:=zn9 BK161
     go_wp2
     go_meet
     case rel=>exact ⟨_,((a0_3 != a1)),zE,H',⟨by have:=HJ3.out;first|omega|exact Nat.le_refl _⟩,⟨zB BK161⟩,⟨zB BK162⟩,⟨zW HB⟩⟩
    rw [if_neg c31] at H;have c31b0 : (a0_2 == a0_0)=false:=beq_eq_false_iff_ne.mpr c31;have c31b1 : (a0_2 != a0_0)=true:=bne_iff_ne.mpr c31;(first|rw [c31b0]|(simp only [i64_w,i32_w];rw [c31b0])|skip);have H':=zo H;clear H;have hnb34:=NB161_162.out;have hnc34:=NB162_161.out;obtain ⟨hcz35_0,hfz35_0,hcz35_1,hfz35_1,hcz35_2,hfz35_2,hcz35_3,hfz35_3,hcz35_4,hfz35_4,hcz35_5,hfz35_5,hcz35_6,hfz35_6,hcz35_7,hfz35_7,hcz35_8,hfz35_8⟩:=zn9 BK161
    go_wp2
    go_meet
    case rel=>exact ⟨_,(true),zE,H',⟨by have:=HJ3.out;first|omega|exact Nat.le_refl _⟩,⟨zB BK161⟩,⟨zB BK162⟩,⟨zW HB⟩⟩
   case rest=>
    clear HC30
    try clear c1
    try clear c2
    try clear p2
    try clear c3
    try clear c4
    try clear c8
    try clear c10
    try clear c12
    try clear c19
    try clear c24
    try clear c27
    try clear c28
    try clear c31
    try clear c31b0
    try clear c31b1
    try clear c32
    try clear c34
    try clear p2
    obtain ⟨kq,x30_29,rfl,HA,HJ29,BK161,BK162,HB⟩:=hcut
    cases kq with
    | zero=>exact absurd HA.out (by simp [mixture_pass.j1])
    | succ kj29=>
     have H:=HA.out;clear HA;simp only [mixture_pass.j1] at H
     by_cases c36 : x30_29=true
     ·subst c36;have H1:=H;rw [if_pos rfl] at H1;clear H;have H:=H1;clear H1;simp only [Option.some.injEq,Prod.mk.injEq] at H;obtain ⟨rfl,rfl,rfl⟩:=H;have hnb37:=NB162_161.out;have hnc37:=NB161_162.out;obtain ⟨hcz38_0,hfz38_0,hcz38_1,hfz38_1⟩:=zn2 BK162
      go_wp2
      refine bodyPost_ret (results_ct rfl _ _ gb162 43 #[.int .i64 0,.slice none 0 0] (0,0) _ rfl (zB BK162) Try.underlying43 rfl zk) rfl ?_;exact ⟨_,zX,by first|exact Kd.R_nil _ _ _ _ _|exact Kd.N_nil _ _ _ _ _|exact Kd.V_nil _ _ _ _ _|exact Kd.Q_nil _ _ _ _ _|exact Kd.S_nil _ _ _ _ _,zW HB⟩
     replace c36:=Bool.eq_false_iff.mpr c36;subst c36;have H1:=H;rw [if_neg (show ¬ (false=true) by decide)] at H1;clear H;have H:=H1;clear H1;replace H:=Option.bind_eq_some_iff.mp H;obtain ⟨t166,A390,H⟩:=H
     try dsimp only at H
     have A39:=zo A390;clear A390
     by_cases c40 : t166>a2
     ·rw [if_pos c40] at H;have c40b0:=decide_eq_true c40;clear c40;simp only [Option.some.injEq,Prod.mk.injEq] at H;obtain ⟨rfl,rfl,rfl⟩:=H;have hnb41:=NB161_162.out;have hnc41:=NB162_161.out;obtain ⟨hcz42_0,hfz42_0,hcz42_1,hfz42_1,hcz42_2,hfz42_2,hcz42_3,hfz42_3,hcz42_4,hfz42_4,hcz42_5,hfz42_5,hcz42_6,hfz42_6,hcz42_7,hfz42_7,hcz42_8,hfz42_8⟩:=zn9 BK161
      go_wp2_with (first|((with_reducible refine gate_callee (f:=50) rfl ?_);refine goesL_ (some 49) rfl rfl Try.func50 zk rfl #[.agg #[.int .i64 a0_0,.slice A0_1 l0_1.length c0_1]] rfl zA ?_;(with_reducible refine (sample_Frames.calls kj29 a0_0 _ _ l0_1 t166 _ ?side1 ?side2 A39.out).mono ?_);(case side1=>repeat (first|exact (Kd.C_below HR0_1.out HB.out)|(with_reducible refine Kd.C_alloc ?_ _)|(with_reducible refine Kd.C_drewN ?_ _)|(with_reducible refine Kd.C_drew ?_)));(case side2=>exact HC0_1.out);rintro e w43 ⟨rfl,hb⟩;refine ⟨_,rfl,?_⟩;replace BK161:=zo (blk_below (zB BK161) hb);replace BK162:=zo (blk_below (zB BK162) hb);replace HB:=zo (below_step (zW HB) hb);(try clear hb);obtain ⟨hcz44_0,hfz44_0,hcz44_1,hfz44_1⟩:=zn2 BK162))
      refine bodyPost_ret (results_ct rfl _ _ gb162 43 #[.int .i64 0,.slice none 0 0] (0,0) _ rfl (zB BK162) Try.underlying43 rfl zk) rfl ?_;exact ⟨_,zX,by first|exact Kd.R_nil _ _ _ _ _|exact Kd.N_nil _ _ _ _ _|exact Kd.V_nil _ _ _ _ _|exact Kd.Q_nil _ _ _ _ _|exact Kd.S_nil _ _ _ _ _,zW HB⟩
     rw [if_neg c40] at H;have c40b0:=decide_eq_false c40;clear c40;replace H:=Option.bind_eq_some_iff.mp H;obtain ⟨⟨t167,t168,t171⟩,A450,H⟩:=H
     try dsimp only at H
     have A45:=zo A450;clear A450;replace H:=Option.bind_eq_some_iff.mp H;obtain ⟨⟨t173,t174,t177,t178,t179,t180,t181⟩,A460,H⟩:=H
     try dsimp only at H
     have A46:=zo A460;clear A460;simp only [Option.some.injEq,Prod.mk.injEq] at H;obtain ⟨rfl,rfl,rfl⟩:=H;have hnb47:=NB161_162.out;have hnc47:=NB162_161.out;obtain ⟨hcz48_0,hfz48_0,hcz48_1,hfz48_1,hcz48_2,hfz48_2,hcz48_3,hfz48_3,hcz48_4,hfz48_4,hcz48_5,hfz48_5,hcz48_6,hfz48_6,hcz48_7,hfz48_7,hcz48_8,hfz48_8⟩:=zn9 BK161
     go_wp2_with (first|((with_reducible refine gate_callee (f:=50) rfl ?_);refine goesL_ (some 49) rfl rfl Try.func50 zk rfl #[.agg #[.int .i64 a0_0,.slice A0_1 l0_1.length c0_1]] rfl zA ?_;(with_reducible refine (sample_Frames.calls kj29 a0_0 _ _ l0_1 t166 _ ?side1 ?side2 A39.out).mono ?_);(case side1=>repeat (first|exact (Kd.C_below HR0_1.out HB.out)|(with_reducible refine Kd.C_alloc ?_ _)|(with_reducible refine Kd.C_drewN ?_ _)|(with_reducible refine Kd.C_drew ?_)));(case side2=>exact HC0_1.out);rintro e w49 ⟨rfl,hb⟩;refine ⟨_,rfl,?_⟩;replace BK161:=zo (blk_below (zB BK161) hb);replace BK162:=zo (blk_below (zB BK162) hb);replace HB:=zo (below_step (zW HB) hb);(try clear hb);obtain ⟨hcz50_0,hfz50_0,hcz50_1,hfz50_1,hcz50_2,hfz50_2,hcz50_3,hfz50_3,hcz50_4,hfz50_4,hcz50_5,hfz50_5,hcz50_6,hfz50_6,hcz50_7,hfz50_7,hcz50_8,hfz50_8⟩:=zn9 BK161)|((with_reducible refine gate_callee (f:=51) rfl ?_);refine goesL_ (some 58) rfl rfl Try.func51 zk rfl #[.agg #[.int .i64 a0_2,.int .i64 a0_3,.slice A0_4 l0_4.length c0_4],.agg #[.int .i64 a0_0,.slice A0_1 l0_1.length c0_1]] rfl zA ?_;(with_reducible refine (matrix_Apply.calls kj29 a0_2 a0_3 _ _ l0_4 a0_0 _ _ l0_1 t167 t168 t171 _ ?side1 ?side2 ?side3 ?side4 A45.out).mono ?_);(case side1=>repeat (first|exact (Kd.C_below HR0_4.out HB.out)|(with_reducible refine Kd.C_alloc ?_ _)|(with_reducible refine Kd.C_drewN ?_ _)|(with_reducible refine Kd.C_drew ?_)));(case side2=>exact HC0_4.out);(case side3=>repeat (first|exact (Kd.C_below HR0_1.out HB.out)|(with_reducible refine Kd.C_alloc ?_ _)|(with_reducible refine Kd.C_drewN ?_ _)|(with_reducible refine Kd.C_drew ?_)));(case side4=>exact HC0_1.out);rintro e w51 ⟨v169,rfl,ho0,hb⟩;refine ⟨_,rfl,?_⟩;have HO170:=zo (Kd.R_lower ho0 (below_size (zW HB)));replace BK161:=zo (blk_below (zB BK161) hb);replace BK162:=zo (blk_below (zB BK162) hb);replace HB:=zo (below_step (zW HB) hb);(try clear hb);(try clear ho0))|((with_reducible refine gate_dst (N:=8) rfl ?_);refine box_event ?hg (N:=8) ?hd (cs:=#[.int .i64 0,.slice none 0 0]) (t:=43) ?hr ?_;(case hd=>rfl);(case hg=>rfl);(case hr=>first|(go_simp;done)|(go_simp;rfl));intro gb172 hg w52 hbox hb;replace HO170:=zo (Kd.R_below (zR HO170) hb);have BK172:=zo hbox;have GW172:=zo (zS hg HB);have GE172:=zo (zS hg HB);replace HB:=zo (below_step (zW HB) hb);have NB161_172:=zo (zL hg BK161);have NB172_161:=zo (zG hg BK161);replace BK161:=zo (blk_below (zB BK161) hb);have NB162_172:=zo (zL hg BK162);have NB172_162:=zo (zG hg BK162);replace BK162:=zo (blk_below (zB BK162) hb);clear hb hbox hg;have hnb53:=NB172_161.out;have hnc53:=NB161_172.out;have hnb54:=NB172_162.out;have hnc54:=NB162_172.out;obtain ⟨hcz55_0,hfz55_0,hcz55_1,hfz55_1⟩:=zn2 BK172;obtain ⟨Ao56,co56,eo56⟩:=Kd.R_slice HO170.out;subst eo56;obtain ⟨hcz57_0,hfz57_0,hcz57_1,hfz57_1,hcz57_2,hfz57_2,hcz57_3,hfz57_3,hcz57_4,hfz57_4,hcz57_5,hfz57_5,hcz57_6,hfz57_6,hcz57_7,hfz57_7,hcz57_8,hfz57_8⟩:=zn9 BK161)|((with_reducible refine gate_callee (f:=41) rfl ?_);refine goesL_ (some 65) rfl rfl Try.func41 zk rfl #[.agg #[.int .i64 a0_5,.int .i64 a0_6,.int .i64 a0_7,.int .i64 a0_8],.agg #[.int .i64 t167,.slice Ao56 t168.length co56]] rfl zA ?_;(with_reducible refine (gain_Run.calls kj29 a0_5 a0_6 a0_7 a0_8 t167 _ _ t168 t173 t174 t177 t178 t179 t180 t181 _ ?side1 ?side2 A46.out).mono ?_);(case side1=>refine (Kd.R_reads' (e:=21) (base:=w.heap.size) (ok:=fun k_=>True) (n:=t168.length) (c:=co56) ?_).2.2;exact (by (with_reducible repeat (first|apply Kd.R_alloc|apply Kd.R_drewN|apply Kd.R_drew));exact (Kd.R_mono (Kd.R_far (p:=⟨gb172,1,none⟩) (Kd.R_far (p:=⟨gb172,0,none⟩) (Kd.R_types HO170.out BK172.out (by decide)) (fun _ hk=>hk.2) (.int .i64 t167)) (fun _ hk=>hk.2) (.slice Ao56 t168.length co56)) (fun _ h_=>h_.1))));(case side2=>exact (Kd.R_reads' HO170.out).2.1);rintro e w58 ⟨v175,rfl,ho0,hb⟩;refine ⟨_,rfl,?_⟩;have HO176:=zo (Kd.R_lower (Kd.R_new' ho0 (Kd.R_lt (by (with_reducible repeat (first|apply Kd.R_alloc|apply Kd.R_drewN|apply Kd.R_drew));exact (Kd.R_mono (Kd.R_far (p:=⟨gb172,1,none⟩) (Kd.R_far (p:=⟨gb172,0,none⟩) (Kd.R_types HO170.out BK172.out (by decide)) (fun _ hk=>hk.2) (.int .i64 t167)) (fun _ hk=>hk.2) (.slice Ao56 t168.length co56)) (fun _ h_=>h_.1))))) (below_size (zW HB)));replace HO170:=zo (Kd.R_elder' (by (with_reducible repeat (first|apply Kd.R_alloc|apply Kd.R_drewN|apply Kd.R_drew));exact (Kd.R_mono (Kd.R_far (p:=⟨gb172,1,none⟩) (Kd.R_far (p:=⟨gb172,0,none⟩) (Kd.R_types HO170.out BK172.out (by decide)) (fun _ hk=>hk.2) (.int .i64 t167)) (fun _ hk=>hk.2) (.slice Ao56 t168.length co56)) (fun _ h_=>h_.1))) (Kd.R_base ho0) hb);replace BK161:=zo (blk_below (zB BK161) hb);replace BK162:=zo (blk_below (zB BK162) hb);replace BK172:=zo (blk_below (g:=gb172) (o:=.cells #[.int .i64 t167,.slice Ao56 t168.length co56] 43 (0,0)) (zB BK172) hb);replace HB:=zo (below_step (zW HB) hb);(try clear hb);(try clear ho0))|((with_reducible refine gate_dst (N:=10) rfl ?_);refine box_event ?hg (N:=10) ?hd (cs:=#[.int .i64 0,.int .i64 0,.int .i64 0,.int .i64 0]) (t:=52) ?hr ?_;(case hd=>rfl);(case hg=>rfl);(case hr=>first|(go_simp;done)|(go_simp;rfl));intro gb182 hg w59 hbox hb;replace HO170:=zo (Kd.R_below (zR HO170) hb);replace HO176:=zo (Kd.R_below (zR HO176) hb);have BK182:=zo hbox;have GW182:=zo (zS hg HB);have GE182:=zo (zS hg HB);replace HB:=zo (below_step (zW HB) hb);have NB161_182:=zo (zL hg BK161);have NB182_161:=zo (zG hg BK161);replace BK161:=zo (blk_below (zB BK161) hb);have NB162_182:=zo (zL hg BK162);have NB182_162:=zo (zG hg BK162);replace BK162:=zo (blk_below (zB BK162) hb);have NB172_182:=zo (zL hg BK172);have NB182_172:=zo (zG hg BK172);replace BK172:=zo (blk_below (zB BK172) hb);clear hb hbox hg;have hnb60:=NB172_182.out;have hnc60:=NB182_172.out;obtain ⟨hcz61_0,hfz61_0,hcz61_1,hfz61_1⟩:=zn2 BK172;obtain ⟨Ao62,co62,eo62⟩:=Kd.R_slice HO176.out;subst eo62;have hnb63:=NB182_161.out;have hnc63:=NB161_182.out;have hnb64:=NB182_162.out;have hnc64:=NB162_182.out;obtain ⟨hcz65_0,hfz65_0,hcz65_1,hfz65_1,hcz65_2,hfz65_2,hcz65_3,hfz65_3⟩:=zn4 BK182;obtain ⟨hcz66_0,hfz66_0,hcz66_1,hfz66_1⟩:=zn2 BK162))
     refine bodyPost_ret (results_ct rfl _ _ gb162 43 #[.int .i64 t173,.slice Ao62 t174.length co62] (0,0) _ rfl (zB BK162) Try.underlying43 rfl zk) rfl ?_;exact ⟨_,zX,by (with_reducible repeat (first|apply Kd.R_alloc|apply Kd.R_drewN|apply Kd.R_drew));exact Kd.R_mono (Kd.R_far (p:=⟨gb162,1,none⟩) (Kd.R_far (p:=⟨gb162,0,none⟩) (Kd.R_far (p:=⟨gb182,3,none⟩) (Kd.R_far (p:=⟨gb182,2,none⟩) (Kd.R_far (p:=⟨gb182,1,none⟩) (Kd.R_far (p:=⟨gb182,0,none⟩) (Kd.R_far (p:=⟨gb172,1,none⟩) (Kd.R_far (p:=⟨gb172,0,none⟩) (Kd.R_types (Kd.R_types (Kd.R_types HO176.out BK172.out (by decide)) BK182.out (by decide)) BK162.out (by decide)) (fun _ hk=>hk.1.1.2) (.int .i64 t173)) (fun _ hk=>hk.1.1.2) (.slice Ao62 t174.length co62)) (fun _ hk=>hk.1.2) (.int .i64 t177)) (fun _ hk=>hk.1.2) (.int .i64 t178)) (fun _ hk=>hk.1.2) (.int .i64 t179)) (fun _ hk=>hk.1.2) (.int .i64 t180)) (fun _ hk=>hk.2) (.int .i64 t173)) (fun _ hk=>hk.2) (.slice Ao62 t174.length co62)) (fun _ hk=>trivial),zW HB⟩

end Go.Proofs.Ytcnmemcclhahnaa.QT
