-- Written by a program of this session, out of the seat's translation; checked by the kernel alone.
import Derived.Test.YtcnmemcclhahnaaQT0
import Derived.Test.YtcnmemcclhahnaaQT2
import Derived.Test.YtcnmemcclhahnaaQT3
import Derived.Test.YtcnmemcclhahnaaQT4
import Derived.Test.YtcnmemcclhahnaaQT5
namespace Go.Proofs.Ytcnmemcclhahnaa.QT
open Go.RowKit Go.Proofs.YtcnmemcclhahnaaW.PrintWords Go.Proofs.YtcnmemcclhahnaaW.PrintLast Go.Proofs.YtcnmemcclhahnaaW.PrintMore
attribute [local go_sem] max2_int min2_int max_two min_two max_three min_three max_four min_four   -- for this text's walks alone
set_option linter.unusedVariables false
set_option linter.unusedSimpArgs false

/-! ### mixture_pass: function 32 -/
mutual
def mixture_pass.j0 : Nat→Int→Int→Bool→Int→List Int→Int→Int→List Int→Int→Int→Int→Int→Option (Int×List Int×Int)
 | 0,_,_,_,_,_,_,_,_,_,_,_,_=>none
 | k+1,x1,x2,x12,x162000,x162001,x162002,x162003,x162004,x162005,x162006,x162007,x162008=>if x12=true then (some (0,([] : List Int),1)) else (if x162002=x162000 then (mixture_pass.j1 k x2 (x162003 != x1) x162000 x162001 x162002 x162003 x162004 x162005 x162006 x162007 x162008) else (mixture_pass.j1 k x2 true x162000 x162001 x162002 x162003 x162004 x162005 x162006 x162007 x162008))
def mixture_pass.j1 : Nat→Int→Bool→Int→List Int→Int→Int→List Int→Int→Int→Int→Int→Option (Int×List Int×Int)
 | 0,_,_,_,_,_,_,_,_,_,_,_=>none
 | k+1,x2,x30,x162000,x162001,x162002,x162003,x162004,x162005,x162006,x162007,x162008=>if x30=true then (some (0,([] : List Int),11)) else ((sample_Frames.f k x162000 x162001).bind fun t166=>(if t166>x2 then (some (0,([] : List Int),2)) else ((matrix_Apply.f k x162002 x162003 x162004 x162000 x162001).bind fun bt167=>((gain_Run.f k x162005 x162006 x162007 x162008 bt167.1 bt167.2.1).bind fun bt173=>(some (bt173.1,bt173.2.1,bt173.2.2.2.2.2.2))))))
end
def mixture_pass.f (k : Nat) (a0_0 : Int) (l0_1 : List Int) (a0_2 : Int) (a0_3 : Int) (l0_4 : List Int) (a0_5 : Int) (a0_6 : Int) (a0_7 : Int) (a0_8 : Int) (a1 : Int) (a2 : Int) : Option (Int×List Int×Int):=(sample_Valid.f k a0_0 l0_1).bind fun t163=>(if t163=true then ((matrix_Valid.f k a0_2 a0_3 l0_4).bind fun t164=>(if t164=true then ((gain_Valid.f a0_5 a0_6 a0_7 a0_8).bind fun t165=>(mixture_pass.j0 k a1 a2 (!t165) a0_0 l0_1 a0_2 a0_3 l0_4 a0_5 a0_6 a0_7 a0_8)) else (mixture_pass.j0 k a1 a2 true a0_0 l0_1 a0_2 a0_3 l0_4 a0_5 a0_6 a0_7 a0_8))) else (mixture_pass.j0 k a1 a2 true a0_0 l0_1 a0_2 a0_3 l0_4 a0_5 a0_6 a0_7 a0_8))
theorem mixture_pass.mono_l : ∀ k,(∀ y0 y1 y2 y3 y4 y5 y6 y7 y8 y9 y10 y11,LeO (mixture_pass.j0 k y0 y1 y2 y3 y4 y5 y6 y7 y8 y9 y10 y11) (mixture_pass.j0 (k+1) y0 y1 y2 y3 y4 y5 y6 y7 y8 y9 y10 y11))∧(∀ y0 y1 y2 y3 y4 y5 y6 y7 y8 y9 y10,LeO (mixture_pass.j1 k y0 y1 y2 y3 y4 y5 y6 y7 y8 y9 y10) (mixture_pass.j1 (k+1) y0 y1 y2 y3 y4 y5 y6 y7 y8 y9 y10))
 | 0=>⟨fun _ _ _ _ _ _ _ _ _ _ _ _ r h=>by simp [mixture_pass.j0] at h,fun _ _ _ _ _ _ _ _ _ _ _ r h=>by simp [mixture_pass.j1] at h⟩
 | k+1=>by
  obtain ⟨ih0,ih1⟩:=mixture_pass.mono_l k
  refine ⟨?_,?_⟩
  ·intro y0 y1 y2 y3 y4 y5 y6 y7 y8 y9 y10 y11
   unfold mixture_pass.j0
   repeat' first
   | (with_reducible exact ih0 _ _ _ _ _ _ _ _ _ _ _ _)
   | (with_reducible exact ih1 _ _ _ _ _ _ _ _ _ _ _)
   | (with_reducible exact gain_Run.mono _ _ _ _ _ _ _)
   | (with_reducible exact matrix_Apply.mono _ _ _ _ _ _)
   | (with_reducible exact matrix_Valid.mono _ _ _ _)
   | (with_reducible exact sample_Frames.mono _ _ _)
   | (with_reducible exact sample_Valid.mono _ _ _)
   | (with_reducible exact LeO.refl _)
   | (with_reducible exact LeO.none _)
   | (with_reducible refine LeO.ite ?_ ?_)
   | (with_reducible refine LeO.bind ?_ (fun _=>?_))
   | exact ih0 _ _ _ _ _ _ _ _ _ _ _ _
   | exact ih1 _ _ _ _ _ _ _ _ _ _ _
   | exact gain_Run.mono _ _ _ _ _ _ _
   | exact matrix_Apply.mono _ _ _ _ _ _
   | exact matrix_Valid.mono _ _ _ _
   | exact sample_Frames.mono _ _ _
   | exact sample_Valid.mono _ _ _
   | exact LeO.none _
   | refine LeO.ite ?_ ?_
   | refine LeO.bind ?_ (fun _=>?_)
  ·intro y0 y1 y2 y3 y4 y5 y6 y7 y8 y9 y10
   unfold mixture_pass.j1
   repeat' first
   | (with_reducible exact ih0 _ _ _ _ _ _ _ _ _ _ _ _)
   | (with_reducible exact ih1 _ _ _ _ _ _ _ _ _ _ _)
   | (with_reducible exact gain_Run.mono _ _ _ _ _ _ _)
   | (with_reducible exact matrix_Apply.mono _ _ _ _ _ _)
   | (with_reducible exact matrix_Valid.mono _ _ _ _)
   | (with_reducible exact sample_Frames.mono _ _ _)
   | (with_reducible exact sample_Valid.mono _ _ _)
   | (with_reducible exact LeO.refl _)
   | (with_reducible exact LeO.none _)
   | (with_reducible refine LeO.ite ?_ ?_)
   | (with_reducible refine LeO.bind ?_ (fun _=>?_))
   | exact ih0 _ _ _ _ _ _ _ _ _ _ _ _
   | exact ih1 _ _ _ _ _ _ _ _ _ _ _
   | exact gain_Run.mono _ _ _ _ _ _ _
   | exact matrix_Apply.mono _ _ _ _ _ _
   | exact matrix_Valid.mono _ _ _ _
   | exact sample_Frames.mono _ _ _
   | exact sample_Valid.mono _ _ _
   | exact LeO.none _
   | refine LeO.ite ?_ ?_
   | refine LeO.bind ?_ (fun _=>?_)
theorem mixture_pass.mono : ∀ a0 a1 a2 a3 a4 a5 a6 a7 a8 a9 a10 k,LeO (mixture_pass.f k a0 a1 a2 a3 a4 a5 a6 a7 a8 a9 a10) (mixture_pass.f (k+1) a0 a1 a2 a3 a4 a5 a6 a7 a8 a9 a10):=by
 intro a0 a1 a2 a3 a4 a5 a6 a7 a8 a9 a10 k
 obtain ⟨ih0,ih1⟩:=mixture_pass.mono_l k
 unfold mixture_pass.f
 repeat' first
   | (with_reducible exact ih0 _ _ _ _ _ _ _ _ _ _ _ _)
   | (with_reducible exact ih1 _ _ _ _ _ _ _ _ _ _ _)
   | (with_reducible exact gain_Run.mono _ _ _ _ _ _ _)
   | (with_reducible exact matrix_Apply.mono _ _ _ _ _ _)
   | (with_reducible exact matrix_Valid.mono _ _ _ _)
   | (with_reducible exact sample_Frames.mono _ _ _)
   | (with_reducible exact sample_Valid.mono _ _ _)
   | (with_reducible exact LeO.refl _)
   | (with_reducible exact LeO.none _)
   | (with_reducible refine LeO.ite ?_ ?_)
   | (with_reducible refine LeO.bind ?_ (fun _=>?_))
   | exact ih0 _ _ _ _ _ _ _ _ _ _ _ _
   | exact ih1 _ _ _ _ _ _ _ _ _ _ _
   | exact gain_Run.mono _ _ _ _ _ _ _
   | exact matrix_Apply.mono _ _ _ _ _ _
   | exact matrix_Valid.mono _ _ _ _
   | exact sample_Frames.mono _ _ _
   | exact sample_Valid.mono _ _ _
   | exact LeO.none _
   | refine LeO.ite ?_ ?_
   | refine LeO.bind ?_ (fun _=>?_)
set_option maxHeartbeats 8000000 in
set_option maxRecDepth 100000 in
theorem mixture_pass.calls (k : Nat) (a0_0 : Int) (A0_1 : Option Addr) (c0_1 : Nat) (l0_1 : List Int) (a0_2 : Int) (a0_3 : Int) (A0_4 : Option Addr) (c0_4 : Nat) (l0_4 : List Int) (a0_5 : Int) (a0_6 : Int) (a0_7 : Int) (a0_8 : Int) (a1 : Int) (a2 : Int) (r1 : Int) (r2 : List Int) (r3 : Int) (w : World) (hr0_1 : Kd.C (Kd.int .i32) w A0_1 l0_1.length l0_1) (hc0_1 : l0_1.length≤c0_1) (hr0_4 : Kd.C (Kd.int .i64) w A0_4 l0_4.length l0_4) (hc0_4 : l0_4.length≤c0_4) (h : mixture_pass.f k a0_0 l0_1 a0_2 a0_3 l0_4 a0_5 a0_6 a0_7 a0_8 a1 a2=some (r1,r2,r3)) :
  Calls Try.prog 32 #[.agg #[.int .i64 a0_0,.slice A0_1 l0_1.length c0_1,.int .i64 a0_2,.int .i64 a0_3,.slice A0_4 l0_4.length c0_4,.int .i64 a0_5,.int .i64 a0_6,.int .i64 a0_7,.int .i64 a0_8],.int .i64 a1,.int .i64 a2] w fun e w'=>∃ v1_ : Value,e = .returned (.tuple #[.agg #[.int .i64 r1,v1_],.int .i64 r3])∧Kd.R (Kd.int .i32) 21 w' w.heap.size (fun _=>True) v1_ r2∧Below w.heap.size w w':=by
 have hu54:=Try.underlying54
 have hu43:=Try.underlying43
 have hu50:=Try.underlying50
 have hu52:=Try.underlying52
 have HR0_1:=Aside0.mk hr0_1
 have HC0_1:=Aside0.mk hc0_1
 clear hr0_1 hc0_1
 have HR0_4:=Aside0.mk hr0_4
 have HC0_4:=Aside0.mk hc0_4
 clear hr0_4 hc0_4
 have HB:=Aside0.mk (Below.refl w.heap.size w)
 have H : ((sample_Valid.f k a0_0 l0_1).bind fun t163=>(if t163=true then ((matrix_Valid.f k a0_2 a0_3 l0_4).bind fun t164=>(if t164=true then ((gain_Valid.f a0_5 a0_6 a0_7 a0_8).bind fun t165=>(mixture_pass.j0 k a1 a2 (!t165) a0_0 l0_1 a0_2 a0_3 l0_4 a0_5 a0_6 a0_7 a0_8)) else (mixture_pass.j0 k a1 a2 true a0_0 l0_1 a0_2 a0_3 l0_4 a0_5 a0_6 a0_7 a0_8))) else (mixture_pass.j0 k a1 a2 true a0_0 l0_1 a0_2 a0_3 l0_4 a0_5 a0_6 a0_7 a0_8)))=some (r1,r2,r3):=h
 clear h
 have HC4:=Aside0.mk H
 clear H
 go_enter Try.func32,Try.ntmps32
 go_upto_region 1 with (first|((with_reducible refine gate_dst (N:=3) rfl ?_);refine box_event ?hg (N:=3) ?hd (cs:=#[.int .i64 a0_0,.slice A0_1 l0_1.length c0_1,.int .i64 a0_2,.int .i64 a0_3,.slice A0_4 l0_4.length c0_4,.int .i64 a0_5,.int .i64 a0_6,.int .i64 a0_7,.int .i64 a0_8]) (t:=54) ?hr ?_;(case hd=>rfl);(case hg=>rfl);(case hr=>first|(go_simp;done)|(go_simp;rfl));intro gb161 hg w5 hbox hb;have BK161:=Aside0.mk hbox;have GW161:=Aside0.mk (zS hg HB);have GE161:=Aside0.mk (zS hg HB);replace HB:=Aside0.mk (below_step (zW HB) hb);clear hb hbox hg)|((with_reducible refine gate_dst (N:=6) rfl ?_);refine box_event ?hg (N:=6) ?hd (cs:=#[.int .i64 0,.slice none 0 0]) (t:=43) ?hr ?_;(case hd=>rfl);(case hg=>rfl);(case hr=>first|(go_simp;done)|(go_simp;rfl));intro gb162 hg w6 hbox hb;have BK162:=Aside0.mk hbox;have GW162:=Aside0.mk (zS hg HB);have GE162:=Aside0.mk (zS hg HB);replace HB:=Aside0.mk (below_step (zW HB) hb);have NB161_162:=Aside0.mk (zL hg BK161);have NB162_161:=Aside0.mk (zG hg BK161);replace BK161:=Aside0.mk (blk_below (zB BK161) hb);clear hb hbox hg))
 (try simp only [Act.put,List.setIfInBounds_toArray,List.set_cons_zero,List.set_cons_succ])
 go_cut [12] (fun v12 wc=>∃ (kq : Nat) (x12_3 : Bool),v12 = .bool x12_3∧Aside0 (mixture_pass.j0 kq a1 a2 x12_3 a0_0 l0_1 a0_2 a0_3 l0_4 a0_5 a0_6 a0_7 a0_8=some (r1,r2,r3))∧Aside0 (kq≤k)∧Aside0 (wc.heap[gb161]?=some (.cells #[.int .i64 a0_0,(.slice A0_1 l0_1.length c0_1),.int .i64 a0_2,.int .i64 a0_3,(.slice A0_4 l0_4.length c0_4),.int .i64 a0_5,.int .i64 a0_6,.int .i64 a0_7,.int .i64 a0_8] 54 (0,0)))∧Aside0 (wc.heap[gb162]?=some (.cells #[.int .i64 0,(.slice none 0 0)] 43 (0,0)))∧Aside0 (Below w.heap.size w wc))
 case first=>
  have H:=HC4.out
  clear HC4
  replace H:=Option.bind_eq_some_iff.mp H
  obtain ⟨t163,A70,H⟩:=H
  replace H : (if t163=true then ((matrix_Valid.f k a0_2 a0_3 l0_4).bind fun t164=>(if t164=true then ((gain_Valid.f a0_5 a0_6 a0_7 a0_8).bind fun t165=>(mixture_pass.j0 k a1 a2 (!t165) a0_0 l0_1 a0_2 a0_3 l0_4 a0_5 a0_6 a0_7 a0_8)) else (mixture_pass.j0 k a1 a2 true a0_0 l0_1 a0_2 a0_3 l0_4 a0_5 a0_6 a0_7 a0_8))) else (mixture_pass.j0 k a1 a2 true a0_0 l0_1 a0_2 a0_3 l0_4 a0_5 a0_6 a0_7 a0_8))=some (r1,r2,r3):=H
  have A7:=Aside0.mk A70
  clear A70
  by_cases c8 : t163=true
  rotate_left
  ·replace c8:=Bool.eq_false_iff.mpr c8
   subst c8
   have H1 : (mixture_pass.j0 k a1 a2 true a0_0 l0_1 a0_2 a0_3 l0_4 a0_5 a0_6 a0_7 a0_8)=some (r1,r2,r3):=by rw [if_neg (show ¬ (false=true) by decide)] at H;exact H
   clear H
   have H:=H1
   clear H1
   have H':=Aside0.mk H
   clear H
   have hnb24:=NB161_162.out
   have hnc24:=NB162_161.out
   have hcz25_0:=zc BK161 0 (.int .i64 a0_0) rfl
   have hcz25_1:=zc BK161 1 (.slice A0_1 l0_1.length c0_1) rfl
   have hcz25_2:=zc BK161 2 (.int .i64 a0_2) rfl
   have hcz25_3:=zc BK161 3 (.int .i64 a0_3) rfl
   have hcz25_4:=zc BK161 4 (.slice A0_4 l0_4.length c0_4) rfl
   have hcz25_5:=zc BK161 5 (.int .i64 a0_5) rfl
   have hcz25_6:=zc BK161 6 (.int .i64 a0_6) rfl
   have hcz25_7:=zc BK161 7 (.int .i64 a0_7) rfl
   have hcz25_8:=zc BK161 8 (.int .i64 a0_8) rfl
   have hfz25_0:=blk_frozen BK161.out 0
   have hfz25_1:=blk_frozen BK161.out 1
   have hfz25_2:=blk_frozen BK161.out 2
   have hfz25_3:=blk_frozen BK161.out 3
   have hfz25_4:=blk_frozen BK161.out 4
   have hfz25_5:=blk_frozen BK161.out 5
   have hfz25_6:=blk_frozen BK161.out 6
   have hfz25_7:=blk_frozen BK161.out 7
   have hfz25_8:=blk_frozen BK161.out 8
   go_wp2_with (first|((with_reducible refine gate_callee (f:=48) rfl ?_);refine goesL_ (some 15) rfl rfl Try.func48 zk rfl #[.agg #[.int .i64 a0_0,.slice A0_1 l0_1.length c0_1]] rfl zA ?_;(with_reducible refine (sample_Valid.calls k a0_0 _ _ l0_1 false _ ?side1 ?side2 A7.out).mono ?_);(case side1=>repeat (first|exact (Kd.C_below HR0_1.out HB.out)|(with_reducible refine Kd.C_alloc ?_ _)|(with_reducible refine Kd.C_drewN ?_ _)|(with_reducible refine Kd.C_drew ?_)));(case side2=>exact HC0_1.out);rintro e w26 ⟨rfl,hb⟩;refine ⟨_,rfl,?_⟩;replace BK161:=Aside0.mk (blk_below (zB BK161) hb);replace BK162:=Aside0.mk (blk_below (zB BK162) hb);replace HB:=Aside0.mk (below_step (zW HB) hb);(try clear hb)))
   go_meet
   case rel=>exact ⟨_,(true),zE,H',⟨zY⟩,⟨zB BK161⟩,⟨zB BK162⟩,⟨zW HB⟩⟩
  subst c8
  have H1 : ((matrix_Valid.f k a0_2 a0_3 l0_4).bind fun t164=>(if t164=true then ((gain_Valid.f a0_5 a0_6 a0_7 a0_8).bind fun t165=>(mixture_pass.j0 k a1 a2 (!t165) a0_0 l0_1 a0_2 a0_3 l0_4 a0_5 a0_6 a0_7 a0_8)) else (mixture_pass.j0 k a1 a2 true a0_0 l0_1 a0_2 a0_3 l0_4 a0_5 a0_6 a0_7 a0_8)))=some (r1,r2,r3):=by rw [if_pos rfl] at H;exact H
  clear H
  have H:=H1
  clear H1
  replace H:=Option.bind_eq_some_iff.mp H
  obtain ⟨t164,A90,H⟩:=H
  replace H : (if t164=true then ((gain_Valid.f a0_5 a0_6 a0_7 a0_8).bind fun t165=>(mixture_pass.j0 k a1 a2 (!t165) a0_0 l0_1 a0_2 a0_3 l0_4 a0_5 a0_6 a0_7 a0_8)) else (mixture_pass.j0 k a1 a2 true a0_0 l0_1 a0_2 a0_3 l0_4 a0_5 a0_6 a0_7 a0_8))=some (r1,r2,r3):=H
  have A9:=Aside0.mk A90
  clear A90
  by_cases c10 : t164=true
  rotate_left
  ·replace c10:=Bool.eq_false_iff.mpr c10
   subst c10
   have H1 : (mixture_pass.j0 k a1 a2 true a0_0 l0_1 a0_2 a0_3 l0_4 a0_5 a0_6 a0_7 a0_8)=some (r1,r2,r3):=by rw [if_neg (show ¬ (false=true) by decide)] at H;exact H
   clear H
   have H:=H1
   clear H1
   have H':=Aside0.mk H
   clear H
   have hnb19:=NB161_162.out
   have hnc19:=NB162_161.out
   have hcz20_0:=zc BK161 0 (.int .i64 a0_0) rfl
   have hcz20_1:=zc BK161 1 (.slice A0_1 l0_1.length c0_1) rfl
   have hcz20_2:=zc BK161 2 (.int .i64 a0_2) rfl
   have hcz20_3:=zc BK161 3 (.int .i64 a0_3) rfl
   have hcz20_4:=zc BK161 4 (.slice A0_4 l0_4.length c0_4) rfl
   have hcz20_5:=zc BK161 5 (.int .i64 a0_5) rfl
   have hcz20_6:=zc BK161 6 (.int .i64 a0_6) rfl
   have hcz20_7:=zc BK161 7 (.int .i64 a0_7) rfl
   have hcz20_8:=zc BK161 8 (.int .i64 a0_8) rfl
   have hfz20_0:=blk_frozen BK161.out 0
   have hfz20_1:=blk_frozen BK161.out 1
   have hfz20_2:=blk_frozen BK161.out 2
   have hfz20_3:=blk_frozen BK161.out 3
   have hfz20_4:=blk_frozen BK161.out 4
   have hfz20_5:=blk_frozen BK161.out 5
   have hfz20_6:=blk_frozen BK161.out 6
   have hfz20_7:=blk_frozen BK161.out 7
   have hfz20_8:=blk_frozen BK161.out 8
   go_wp2_with (first|((with_reducible refine gate_callee (f:=48) rfl ?_);refine goesL_ (some 15) rfl rfl Try.func48 zk rfl #[.agg #[.int .i64 a0_0,.slice A0_1 l0_1.length c0_1]] rfl zA ?_;(with_reducible refine (sample_Valid.calls k a0_0 _ _ l0_1 true _ ?side1 ?side2 A7.out).mono ?_);(case side1=>repeat (first|exact (Kd.C_below HR0_1.out HB.out)|(with_reducible refine Kd.C_alloc ?_ _)|(with_reducible refine Kd.C_drewN ?_ _)|(with_reducible refine Kd.C_drew ?_)));(case side2=>exact HC0_1.out);rintro e w21 ⟨rfl,hb⟩;refine ⟨_,rfl,?_⟩;replace BK161:=Aside0.mk (blk_below (zB BK161) hb);replace BK162:=Aside0.mk (blk_below (zB BK162) hb);replace HB:=Aside0.mk (below_step (zW HB) hb);(try clear hb);have hcz22_0:=zc BK161 0 (.int .i64 a0_0) rfl;have hcz22_1:=zc BK161 1 (.slice A0_1 l0_1.length c0_1) rfl;have hcz22_2:=zc BK161 2 (.int .i64 a0_2) rfl;have hcz22_3:=zc BK161 3 (.int .i64 a0_3) rfl;have hcz22_4:=zc BK161 4 (.slice A0_4 l0_4.length c0_4) rfl;have hcz22_5:=zc BK161 5 (.int .i64 a0_5) rfl;have hcz22_6:=zc BK161 6 (.int .i64 a0_6) rfl;have hcz22_7:=zc BK161 7 (.int .i64 a0_7) rfl;have hcz22_8:=zc BK161 8 (.int .i64 a0_8) rfl;have hfz22_0:=blk_frozen BK161.out 0;have hfz22_1:=blk_frozen BK161.out 1;have hfz22_2:=blk_frozen BK161.out 2;have hfz22_3:=blk_frozen BK161.out 3;have hfz22_4:=blk_frozen BK161.out 4;have hfz22_5:=blk_frozen BK161.out 5;have hfz22_6:=blk_frozen BK161.out 6;have hfz22_7:=blk_frozen BK161.out 7;have hfz22_8:=blk_frozen BK161.out 8)|(go_at_call 49;(with_reducible refine (matrix_Valid.calls k a0_2 a0_3 _ _ l0_4 false _ ?side1 ?side2 A9.out).mono ?_);(case side1=>repeat (first|exact (Kd.C_below HR0_4.out HB.out)|(with_reducible refine Kd.C_alloc ?_ _)|(with_reducible refine Kd.C_drewN ?_ _)|(with_reducible refine Kd.C_drew ?_)));(case side2=>exact HC0_4.out);rintro e w23 ⟨rfl,hb⟩;replace BK161:=Aside0.mk (blk_below (zB BK161) hb);replace BK162:=Aside0.mk (blk_below (zB BK162) hb);replace HB:=Aside0.mk (below_step (zW HB) hb);(try clear hb)))
   go_meet
   case rel=>exact ⟨_,(true),zE,H',⟨zY⟩,⟨zB BK161⟩,⟨zB BK162⟩,⟨zW HB⟩⟩
  subst c10
  have H1 : ((gain_Valid.f a0_5 a0_6 a0_7 a0_8).bind fun t165=>(mixture_pass.j0 k a1 a2 (!t165) a0_0 l0_1 a0_2 a0_3 l0_4 a0_5 a0_6 a0_7 a0_8))=some (r1,r2,r3):=by rw [if_pos rfl] at H;exact H
  clear H
  have H:=H1
  clear H1
  replace H:=Option.bind_eq_some_iff.mp H
  obtain ⟨t165,A110,H⟩:=H
  replace H : (mixture_pass.j0 k a1 a2 (!t165) a0_0 l0_1 a0_2 a0_3 l0_4 a0_5 a0_6 a0_7 a0_8)=some (r1,r2,r3):=H
  have A11:=Aside0.mk A110
  clear A110
  have H':=Aside0.mk H
  clear H
  have hnb12:=NB161_162.out
  have hnc12:=NB162_161.out
  have hcz13_0:=zc BK161 0 (.int .i64 a0_0) rfl
  have hcz13_1:=zc BK161 1 (.slice A0_1 l0_1.length c0_1) rfl
  have hcz13_2:=zc BK161 2 (.int .i64 a0_2) rfl
  have hcz13_3:=zc BK161 3 (.int .i64 a0_3) rfl
  have hcz13_4:=zc BK161 4 (.slice A0_4 l0_4.length c0_4) rfl
  have hcz13_5:=zc BK161 5 (.int .i64 a0_5) rfl
  have hcz13_6:=zc BK161 6 (.int .i64 a0_6) rfl
  have hcz13_7:=zc BK161 7 (.int .i64 a0_7) rfl
  have hcz13_8:=zc BK161 8 (.int .i64 a0_8) rfl
  have hfz13_0:=blk_frozen BK161.out 0
  have hfz13_1:=blk_frozen BK161.out 1
  have hfz13_2:=blk_frozen BK161.out 2
  have hfz13_3:=blk_frozen BK161.out 3
  have hfz13_4:=blk_frozen BK161.out 4
  have hfz13_5:=blk_frozen BK161.out 5
  have hfz13_6:=blk_frozen BK161.out 6
  have hfz13_7:=blk_frozen BK161.out 7
  have hfz13_8:=blk_frozen BK161.out 8
  go_wp2_with (first|((with_reducible refine gate_callee (f:=48) rfl ?_);refine goesL_ (some 15) rfl rfl Try.func48 zk rfl #[.agg #[.int .i64 a0_0,.slice A0_1 l0_1.length c0_1]] rfl zA ?_;(with_reducible refine (sample_Valid.calls k a0_0 _ _ l0_1 true _ ?side1 ?side2 A7.out).mono ?_);(case side1=>repeat (first|exact (Kd.C_below HR0_1.out HB.out)|(with_reducible refine Kd.C_alloc ?_ _)|(with_reducible refine Kd.C_drewN ?_ _)|(with_reducible refine Kd.C_drew ?_)));(case side2=>exact HC0_1.out);rintro e w14 ⟨rfl,hb⟩;refine ⟨_,rfl,?_⟩;replace BK161:=Aside0.mk (blk_below (zB BK161) hb);replace BK162:=Aside0.mk (blk_below (zB BK162) hb);replace HB:=Aside0.mk (below_step (zW HB) hb);(try clear hb);have hcz15_0:=zc BK161 0 (.int .i64 a0_0) rfl;have hcz15_1:=zc BK161 1 (.slice A0_1 l0_1.length c0_1) rfl;have hcz15_2:=zc BK161 2 (.int .i64 a0_2) rfl;have hcz15_3:=zc BK161 3 (.int .i64 a0_3) rfl;have hcz15_4:=zc BK161 4 (.slice A0_4 l0_4.length c0_4) rfl;have hcz15_5:=zc BK161 5 (.int .i64 a0_5) rfl;have hcz15_6:=zc BK161 6 (.int .i64 a0_6) rfl;have hcz15_7:=zc BK161 7 (.int .i64 a0_7) rfl;have hcz15_8:=zc BK161 8 (.int .i64 a0_8) rfl;have hfz15_0:=blk_frozen BK161.out 0;have hfz15_1:=blk_frozen BK161.out 1;have hfz15_2:=blk_frozen BK161.out 2;have hfz15_3:=blk_frozen BK161.out 3;have hfz15_4:=blk_frozen BK161.out 4;have hfz15_5:=blk_frozen BK161.out 5;have hfz15_6:=blk_frozen BK161.out 6;have hfz15_7:=blk_frozen BK161.out 7;have hfz15_8:=blk_frozen BK161.out 8)|(go_at_call 49;(with_reducible refine (matrix_Valid.calls k a0_2 a0_3 _ _ l0_4 true _ ?side1 ?side2 A9.out).mono ?_);(case side1=>repeat (first|exact (Kd.C_below HR0_4.out HB.out)|(with_reducible refine Kd.C_alloc ?_ _)|(with_reducible refine Kd.C_drewN ?_ _)|(with_reducible refine Kd.C_drew ?_)));(case side2=>exact HC0_4.out);rintro e w16 ⟨rfl,hb⟩;replace BK161:=Aside0.mk (blk_below (zB BK161) hb);replace BK162:=Aside0.mk (blk_below (zB BK162) hb);replace HB:=Aside0.mk (below_step (zW HB) hb);(try clear hb);have hcz17_0:=zc BK161 0 (.int .i64 a0_0) rfl;have hcz17_1:=zc BK161 1 (.slice A0_1 l0_1.length c0_1) rfl;have hcz17_2:=zc BK161 2 (.int .i64 a0_2) rfl;have hcz17_3:=zc BK161 3 (.int .i64 a0_3) rfl;have hcz17_4:=zc BK161 4 (.slice A0_4 l0_4.length c0_4) rfl;have hcz17_5:=zc BK161 5 (.int .i64 a0_5) rfl;have hcz17_6:=zc BK161 6 (.int .i64 a0_6) rfl;have hcz17_7:=zc BK161 7 (.int .i64 a0_7) rfl;have hcz17_8:=zc BK161 8 (.int .i64 a0_8) rfl;have hfz17_0:=blk_frozen BK161.out 0;have hfz17_1:=blk_frozen BK161.out 1;have hfz17_2:=blk_frozen BK161.out 2;have hfz17_3:=blk_frozen BK161.out 3;have hfz17_4:=blk_frozen BK161.out 4;have hfz17_5:=blk_frozen BK161.out 5;have hfz17_6:=blk_frozen BK161.out 6;have hfz17_7:=blk_frozen BK161.out 7;have hfz17_8:=blk_frozen BK161.out 8)|(go_at_call 39;(with_reducible refine (gain_Valid.calls a0_5 a0_6 a0_7 a0_8 t165 _ A11.out).mono ?_);rintro e w18 ⟨rfl,hb⟩;replace BK161:=Aside0.mk (blk_below (zB BK161) hb);replace BK162:=Aside0.mk (blk_below (zB BK162) hb);replace HB:=Aside0.mk (below_step (zW HB) hb);(try clear hb)))
  go_meet
  case rel=>exact ⟨_,(!t165),zE,H',⟨zY⟩,⟨zB BK161⟩,⟨zB BK162⟩,⟨zW HB⟩⟩
 case rest=>
  clear HC4
  try clear c1
  try clear c2
  try clear p2
  try clear c3
  try clear c4
  try clear c8
  try clear c10
  try clear c12
  try clear c19
  try clear c24
  try clear hcz13_0
  try clear hcz13_1
  try clear hcz13_2
  try clear hcz13_3
  try clear hcz13_4
  try clear hcz13_5
  try clear hcz13_6
  try clear hcz13_7
  try clear hcz13_8
  try clear hcz15_0
  try clear hcz15_1
  try clear hcz15_2
  try clear hcz15_3
  try clear hcz15_4
  try clear hcz15_5
  try clear hcz15_6
  try clear hcz15_7
  try clear hcz15_8
  try clear hcz17_0
  try clear hcz17_1
  try clear hcz17_2
  try clear hcz17_3
  try clear hcz17_4
  try clear hcz17_5
  try clear hcz17_6
  try clear hcz17_7
  try clear hcz17_8
  try clear hcz20_0
  try clear hcz20_1
  try clear hcz20_2
  try clear hcz20_3
  try clear hcz20_4
  try clear hcz20_5
  try clear hcz20_6
  try clear hcz20_7
  try clear hcz20_8
  try clear hcz22_0
  try clear hcz22_1
  try clear hcz22_2
  try clear hcz22_3
  try clear hcz22_4
  try clear hcz22_5
  try clear hcz22_6
  try clear hcz22_7
  try clear hcz22_8
  try clear hcz25_0
  try clear hcz25_1
  try clear hcz25_2
  try clear hcz25_3
  try clear hcz25_4
  try clear hcz25_5
  try clear hcz25_6
  try clear hcz25_7
  try clear hcz25_8
  try clear hfz13_0
  try clear hfz13_1
  try clear hfz13_2
  try clear hfz13_3
  try clear hfz13_4
  try clear hfz13_5
  try clear hfz13_6
  try clear hfz13_7
  try clear hfz13_8
  try clear hfz15_0
  try clear hfz15_1
  try clear hfz15_2
  try clear hfz15_3
  try clear hfz15_4
  try clear hfz15_5
  try clear hfz15_6
  try clear hfz15_7
  try clear hfz15_8
  try clear hfz17_0
  try clear hfz17_1
  try clear hfz17_2
  try clear hfz17_3
  try clear hfz17_4
  try clear hfz17_5
  try clear hfz17_6
  try clear hfz17_7
  try clear hfz17_8
  try clear hfz20_0
  try clear hfz20_1
  try clear hfz20_2
  try clear hfz20_3
  try clear hfz20_4
  try clear hfz20_5
  try clear hfz20_6
  try clear hfz20_7
  try clear hfz20_8
  try clear hfz22_0
  try clear hfz22_1
  try clear hfz22_2
  try clear hfz22_3
  try clear hfz22_4
  try clear hfz22_5
  try clear hfz22_6
  try clear hfz22_7
  try clear hfz22_8
  try clear hfz25_0
  try clear hfz25_1
  try clear hfz25_2
  try clear hfz25_3
  try clear hfz25_4
  try clear hfz25_5
  try clear hfz25_6
  try clear hfz25_7
  try clear hfz25_8
  obtain ⟨kq,x12_3,rfl,HA,HJ3,BK161,BK162,HB⟩:=hcut
  cases kq with
  | zero=>exact absurd HA.out (by simp [mixture_pass.j0])
  | succ kj3=>
   have H:=HA.out
   clear HA
   simp only [mixture_pass.j0] at H
   by_cases c27 : x12_3=true
   ·subst c27
    have H1 : (some (0,([] : List Int),1))=some (r1,r2,r3):=by rw [if_pos rfl] at H;exact H
    clear H
    have H:=H1
    clear H1
    simp only [Option.some.injEq,Prod.mk.injEq] at H
    obtain ⟨rfl,rfl,rfl⟩:=H
    have hnb28:=NB162_161.out
    have hnc28:=NB161_162.out
    have hcz29_0:=zc BK162 0 (.int .i64 0) rfl
    have hcz29_1:=zc BK162 1 (.slice none 0 0) rfl
    have hfz29_0:=blk_frozen BK162.out 0
    have hfz29_1:=blk_frozen BK162.out 1
    go_wp2
    refine bodyPost_ret (results_ct rfl _ _ gb162 43 #[.int .i64 0,.slice none 0 0] (0,0) _ rfl (zB BK162) Try.underlying43 rfl zk) rfl ?_
    exact ⟨_,zX,by first|exact Kd.R_nil _ _ _ _ _|exact Kd.N_nil _ _ _ _ _|exact Kd.V_nil _ _ _ _ _|exact Kd.Q_nil _ _ _ _ _|exact Kd.S_nil _ _ _ _ _,zW HB⟩
   replace c27:=Bool.eq_false_iff.mpr c27
   subst c27
   have H1 : (if a0_2=a0_0 then (mixture_pass.j1 kj3 a2 (a0_3 != a1) a0_0 l0_1 a0_2 a0_3 l0_4 a0_5 a0_6 a0_7 a0_8) else (mixture_pass.j1 kj3 a2 true a0_0 l0_1 a0_2 a0_3 l0_4 a0_5 a0_6 a0_7 a0_8))=some (r1,r2,r3):=by rw [if_neg (show ¬ (false=true) by decide)] at H;exact H
   clear H
   have H:=H1
   clear H1
   have HC30:=Aside0.mk H
   clear H
   go_upto_region 3 with (fail)
   go_cut [30] (fun v30 wc=>∃ (kq : Nat) (x30_29 : Bool),v30 = .bool x30_29∧Aside0 (mixture_pass.j1 kq a2 x30_29 a0_0 l0_1 a0_2 a0_3 l0_4 a0_5 a0_6 a0_7 a0_8=some (r1,r2,r3))∧Aside0 (kq≤kj3)∧Aside0 (wc.heap[gb161]?=some (.cells #[.int .i64 a0_0,(.slice A0_1 l0_1.length c0_1),.int .i64 a0_2,.int .i64 a0_3,(.slice A0_4 l0_4.length c0_4),.int .i64 a0_5,.int .i64 a0_6,.int .i64 a0_7,.int .i64 a0_8] 54 (0,0)))∧Aside0 (wc.heap[gb162]?=some (.cells #[.int .i64 0,(.slice none 0 0)] 43 (0,0)))∧Aside0 (Below w.heap.size w wc))
   case first=>
    have H:=HC30.out
    clear HC30
    by_cases c31 : a0_2=a0_0
    ·rw [if_pos c31] at H
     have c31b0 : (a0_2 == a0_0)=true:=beq_iff_eq.mpr c31
     have c31b1 : (a0_2 != a0_0)=false:=bne_eq_false_iff_eq.mpr c31
     clear c31
     (first|rw [c31b0]|(simp only [i64_w,i32_w];rw [c31b0])|skip)
     have H':=Aside0.mk H
     clear H
     have hnb32:=NB161_162.out
     have hnc32:=NB162_161.out
     have hcz33_0:=zc BK161 0 (.int .i64 a0_0) rfl
     have hcz33_1:=zc BK161 1 (.slice A0_1 l0_1.length c0_1) rfl
     have hcz33_2:=zc BK161 2 (.int .i64 a0_2) rfl
     have hcz33_3:=zc BK161 3 (.int .i64 a0_3) rfl
     have hcz33_4:=zc BK161 4 (.slice A0_4 l0_4.length c0_4) rfl
     have hcz33_5:=zc BK161 5 (.int .i64 a0_5) rfl
     have hcz33_6:=zc BK161 6 (.int .i64 a0_6) rfl
     have hcz33_7:=zc BK161 7 (.int .i64 a0_7) rfl
     have hcz33_8:=zc BK161 8 (.int .i64 a0_8) rfl
     have hfz33_0:=blk_frozen BK161.out 0
     have hfz33_1:=blk_frozen BK161.out 1
     have hfz33_2:=blk_frozen BK161.out 2
     have hfz33_3:=blk_frozen BK161.out 3
     have hfz33_4:=blk_frozen BK161.out 4
     have hfz33_5:=blk_frozen BK161.out 5
     have hfz33_6:=blk_frozen BK161.out 6
     have hfz33_7:=blk_frozen BK161.out 7
     have hfz33_8:=blk_frozen BK161.out 8
     go_wp2
     go_meet
     case rel=>exact ⟨_,((a0_3 != a1)),zE,H',⟨by have:=HJ3.out;first|omega|exact Nat.le_refl _⟩,⟨zB BK161⟩,⟨zB BK162⟩,⟨zW HB⟩⟩
    rw [if_neg c31] at H
    have c31b0 : (a0_2 == a0_0)=false:=beq_eq_false_iff_ne.mpr c31
    have c31b1 : (a0_2 != a0_0)=true:=bne_iff_ne.mpr c31
    (first|rw [c31b0]|(simp only [i64_w,i32_w];rw [c31b0])|skip)
    have H':=Aside0.mk H
    clear H
    have hnb34:=NB161_162.out
    have hnc34:=NB162_161.out
    have hcz35_0:=zc BK161 0 (.int .i64 a0_0) rfl
    have hcz35_1:=zc BK161 1 (.slice A0_1 l0_1.length c0_1) rfl
    have hcz35_2:=zc BK161 2 (.int .i64 a0_2) rfl
    have hcz35_3:=zc BK161 3 (.int .i64 a0_3) rfl
    have hcz35_4:=zc BK161 4 (.slice A0_4 l0_4.length c0_4) rfl
    have hcz35_5:=zc BK161 5 (.int .i64 a0_5) rfl
    have hcz35_6:=zc BK161 6 (.int .i64 a0_6) rfl
    have hcz35_7:=zc BK161 7 (.int .i64 a0_7) rfl
    have hcz35_8:=zc BK161 8 (.int .i64 a0_8) rfl
    have hfz35_0:=blk_frozen BK161.out 0
    have hfz35_1:=blk_frozen BK161.out 1
    have hfz35_2:=blk_frozen BK161.out 2
    have hfz35_3:=blk_frozen BK161.out 3
    have hfz35_4:=blk_frozen BK161.out 4
    have hfz35_5:=blk_frozen BK161.out 5
    have hfz35_6:=blk_frozen BK161.out 6
    have hfz35_7:=blk_frozen BK161.out 7
    have hfz35_8:=blk_frozen BK161.out 8
    go_wp2
    go_meet
    case rel=>exact ⟨_,(true),zE,H',⟨by have:=HJ3.out;first|omega|exact Nat.le_refl _⟩,⟨zB BK161⟩,⟨zB BK162⟩,⟨zW HB⟩⟩
   case rest=>
    clear HC30
    try clear c1
    try clear c2
    try clear p2
    try clear c3
    try clear c4
    try clear c8
    try clear c10
    try clear c12
    try clear c19
    try clear c24
    try clear c27
    try clear c28
    try clear c31
    try clear c31b0
    try clear c31b1
    try clear c32
    try clear c34
    try clear hcz13_0
    try clear hcz13_1
    try clear hcz13_2
    try clear hcz13_3
    try clear hcz13_4
    try clear hcz13_5
    try clear hcz13_6
    try clear hcz13_7
    try clear hcz13_8
    try clear hcz15_0
    try clear hcz15_1
    try clear hcz15_2
    try clear hcz15_3
    try clear hcz15_4
    try clear hcz15_5
    try clear hcz15_6
    try clear hcz15_7
    try clear hcz15_8
    try clear hcz17_0
    try clear hcz17_1
    try clear hcz17_2
    try clear hcz17_3
    try clear hcz17_4
    try clear hcz17_5
    try clear hcz17_6
    try clear hcz17_7
    try clear hcz17_8
    try clear hcz20_0
    try clear hcz20_1
    try clear hcz20_2
    try clear hcz20_3
    try clear hcz20_4
    try clear hcz20_5
    try clear hcz20_6
    try clear hcz20_7
    try clear hcz20_8
    try clear hcz22_0
    try clear hcz22_1
    try clear hcz22_2
    try clear hcz22_3
    try clear hcz22_4
    try clear hcz22_5
    try clear hcz22_6
    try clear hcz22_7
    try clear hcz22_8
    try clear hcz25_0
    try clear hcz25_1
    try clear hcz25_2
    try clear hcz25_3
    try clear hcz25_4
    try clear hcz25_5
    try clear hcz25_6
    try clear hcz25_7
    try clear hcz25_8
    try clear hcz29_0
    try clear hcz29_1
    try clear hcz33_0
    try clear hcz33_1
    try clear hcz33_2
    try clear hcz33_3
    try clear hcz33_4
    try clear hcz33_5
    try clear hcz33_6
    try clear hcz33_7
    try clear hcz33_8
    try clear hcz35_0
    try clear hcz35_1
    try clear hcz35_2
    try clear hcz35_3
    try clear hcz35_4
    try clear hcz35_5
    try clear hcz35_6
    try clear hcz35_7
    try clear hcz35_8
    try clear hfz13_0
    try clear hfz13_1
    try clear hfz13_2
    try clear hfz13_3
    try clear hfz13_4
    try clear hfz13_5
    try clear hfz13_6
    try clear hfz13_7
    try clear hfz13_8
    try clear hfz15_0
    try clear hfz15_1
    try clear hfz15_2
    try clear hfz15_3
    try clear hfz15_4
    try clear hfz15_5
    try clear hfz15_6
    try clear hfz15_7
    try clear hfz15_8
    try clear hfz17_0
    try clear hfz17_1
    try clear hfz17_2
    try clear hfz17_3
    try clear hfz17_4
    try clear hfz17_5
    try clear hfz17_6
    try clear hfz17_7
    try clear hfz17_8
    try clear hfz20_0
    try clear hfz20_1
    try clear hfz20_2
    try clear hfz20_3
    try clear hfz20_4
    try clear hfz20_5
    try clear hfz20_6
    try clear hfz20_7
    try clear hfz20_8
    try clear hfz22_0
    try clear hfz22_1
    try clear hfz22_2
    try clear hfz22_3
    try clear hfz22_4
    try clear hfz22_5
    try clear hfz22_6
    try clear hfz22_7
    try clear hfz22_8
    try clear hfz25_0
    try clear hfz25_1
    try clear hfz25_2
    try clear hfz25_3
    try clear hfz25_4
    try clear hfz25_5
    try clear hfz25_6
    try clear hfz25_7
    try clear hfz25_8
    try clear hfz29_0
    try clear hfz29_1
    try clear hfz33_0
    try clear hfz33_1
    try clear hfz33_2
    try clear hfz33_3
    try clear hfz33_4
    try clear hfz33_5
    try clear hfz33_6
    try clear hfz33_7
    try clear hfz33_8
    try clear hfz35_0
    try clear hfz35_1
    try clear hfz35_2
    try clear hfz35_3
    try clear hfz35_4
    try clear hfz35_5
    try clear hfz35_6
    try clear hfz35_7
    try clear hfz35_8
    try clear p2
    obtain ⟨kq,x30_29,rfl,HA,HJ29,BK161,BK162,HB⟩:=hcut
    cases kq with
    | zero=>exact absurd HA.out (by simp [mixture_pass.j1])
    | succ kj29=>
     have H:=HA.out
     clear HA
     simp only [mixture_pass.j1] at H
     by_cases c36 : x30_29=true
     ·subst c36
      have H1 : (some (0,([] : List Int),11))=some (r1,r2,r3):=by rw [if_pos rfl] at H;exact H
      clear H
      have H:=H1
      clear H1
      simp only [Option.some.injEq,Prod.mk.injEq] at H
      obtain ⟨rfl,rfl,rfl⟩:=H
      have hnb37:=NB162_161.out
      have hnc37:=NB161_162.out
      have hcz38_0:=zc BK162 0 (.int .i64 0) rfl
      have hcz38_1:=zc BK162 1 (.slice none 0 0) rfl
      have hfz38_0:=blk_frozen BK162.out 0
      have hfz38_1:=blk_frozen BK162.out 1
      go_wp2
      refine bodyPost_ret (results_ct rfl _ _ gb162 43 #[.int .i64 0,.slice none 0 0] (0,0) _ rfl (zB BK162) Try.underlying43 rfl zk) rfl ?_
      exact ⟨_,zX,by first|exact Kd.R_nil _ _ _ _ _|exact Kd.N_nil _ _ _ _ _|exact Kd.V_nil _ _ _ _ _|exact Kd.Q_nil _ _ _ _ _|exact Kd.S_nil _ _ _ _ _,zW HB⟩
     replace c36:=Bool.eq_false_iff.mpr c36
     subst c36
     have H1 : ((sample_Frames.f kj29 a0_0 l0_1).bind fun t166=>(if t166>a2 then (some (0,([] : List Int),2)) else ((matrix_Apply.f kj29 a0_2 a0_3 l0_4 a0_0 l0_1).bind fun bt167=>((gain_Run.f kj29 a0_5 a0_6 a0_7 a0_8 bt167.1 bt167.2.1).bind fun bt173=>(some (bt173.1,bt173.2.1,bt173.2.2.2.2.2.2))))))=some (r1,r2,r3):=by rw [if_neg (show ¬ (false=true) by decide)] at H;exact H
     clear H
     have H:=H1
     clear H1
     replace H:=Option.bind_eq_some_iff.mp H
     obtain ⟨t166,A390,H⟩:=H
     replace H : (if t166>a2 then (some (0,([] : List Int),2)) else ((matrix_Apply.f kj29 a0_2 a0_3 l0_4 a0_0 l0_1).bind fun bt167=>((gain_Run.f kj29 a0_5 a0_6 a0_7 a0_8 bt167.1 bt167.2.1).bind fun bt173=>(some (bt173.1,bt173.2.1,bt173.2.2.2.2.2.2)))))=some (r1,r2,r3):=H
     have A39:=Aside0.mk A390
     clear A390
     by_cases c40 : t166>a2
     ·rw [if_pos c40] at H
      have c40b0 : decide (a2<t166)=true:=decide_eq_true c40
      clear c40
      simp only [Option.some.injEq,Prod.mk.injEq] at H
      obtain ⟨rfl,rfl,rfl⟩:=H
      have hnb41:=NB161_162.out
      have hnc41:=NB162_161.out
      have hcz42_0:=zc BK161 0 (.int .i64 a0_0) rfl
      have hcz42_1:=zc BK161 1 (.slice A0_1 l0_1.length c0_1) rfl
      have hcz42_2:=zc BK161 2 (.int .i64 a0_2) rfl
      have hcz42_3:=zc BK161 3 (.int .i64 a0_3) rfl
      have hcz42_4:=zc BK161 4 (.slice A0_4 l0_4.length c0_4) rfl
      have hcz42_5:=zc BK161 5 (.int .i64 a0_5) rfl
      have hcz42_6:=zc BK161 6 (.int .i64 a0_6) rfl
      have hcz42_7:=zc BK161 7 (.int .i64 a0_7) rfl
      have hcz42_8:=zc BK161 8 (.int .i64 a0_8) rfl
      have hfz42_0:=blk_frozen BK161.out 0
      have hfz42_1:=blk_frozen BK161.out 1
      have hfz42_2:=blk_frozen BK161.out 2
      have hfz42_3:=blk_frozen BK161.out 3
      have hfz42_4:=blk_frozen BK161.out 4
      have hfz42_5:=blk_frozen BK161.out 5
      have hfz42_6:=blk_frozen BK161.out 6
      have hfz42_7:=blk_frozen BK161.out 7
      have hfz42_8:=blk_frozen BK161.out 8
      go_wp2_with (first|((with_reducible refine gate_callee (f:=50) rfl ?_);refine goesL_ (some 49) rfl rfl Try.func50 zk rfl #[.agg #[.int .i64 a0_0,.slice A0_1 l0_1.length c0_1]] rfl zA ?_;(with_reducible refine (sample_Frames.calls kj29 a0_0 _ _ l0_1 t166 _ ?side1 ?side2 A39.out).mono ?_);(case side1=>repeat (first|exact (Kd.C_below HR0_1.out HB.out)|(with_reducible refine Kd.C_alloc ?_ _)|(with_reducible refine Kd.C_drewN ?_ _)|(with_reducible refine Kd.C_drew ?_)));(case side2=>exact HC0_1.out);rintro e w43 ⟨rfl,hb⟩;refine ⟨_,rfl,?_⟩;replace BK161:=Aside0.mk (blk_below (zB BK161) hb);replace BK162:=Aside0.mk (blk_below (zB BK162) hb);replace HB:=Aside0.mk (below_step (zW HB) hb);(try clear hb);have hcz44_0:=zc BK162 0 (.int .i64 0) rfl;have hcz44_1:=zc BK162 1 (.slice none 0 0) rfl;have hfz44_0:=blk_frozen BK162.out 0;have hfz44_1:=blk_frozen BK162.out 1))
      refine bodyPost_ret (results_ct rfl _ _ gb162 43 #[.int .i64 0,.slice none 0 0] (0,0) _ rfl (zB BK162) Try.underlying43 rfl zk) rfl ?_
      exact ⟨_,zX,by first|exact Kd.R_nil _ _ _ _ _|exact Kd.N_nil _ _ _ _ _|exact Kd.V_nil _ _ _ _ _|exact Kd.Q_nil _ _ _ _ _|exact Kd.S_nil _ _ _ _ _,zW HB⟩
     rw [if_neg c40] at H
     have c40b0 : decide (a2<t166)=false:=decide_eq_false c40
     clear c40
     replace H:=Option.bind_eq_some_iff.mp H
     obtain ⟨⟨t167,t168,t171⟩,A450,H⟩:=H
     replace H : ((gain_Run.f kj29 a0_5 a0_6 a0_7 a0_8 t167 t168).bind fun bt173=>(some (bt173.1,bt173.2.1,bt173.2.2.2.2.2.2)))=some (r1,r2,r3):=H
     have A45:=Aside0.mk A450
     clear A450
     replace H:=Option.bind_eq_some_iff.mp H
     obtain ⟨⟨t173,t174,t177,t178,t179,t180,t181⟩,A460,H⟩:=H
     replace H : (some (t173,t174,t181))=some (r1,r2,r3):=H
     have A46:=Aside0.mk A460
     clear A460
     simp only [Option.some.injEq,Prod.mk.injEq] at H
     obtain ⟨rfl,rfl,rfl⟩:=H
     have hnb47:=NB161_162.out
     have hnc47:=NB162_161.out
     have hcz48_0:=zc BK161 0 (.int .i64 a0_0) rfl
     have hcz48_1:=zc BK161 1 (.slice A0_1 l0_1.length c0_1) rfl
     have hcz48_2:=zc BK161 2 (.int .i64 a0_2) rfl
     have hcz48_3:=zc BK161 3 (.int .i64 a0_3) rfl
     have hcz48_4:=zc BK161 4 (.slice A0_4 l0_4.length c0_4) rfl
     have hcz48_5:=zc BK161 5 (.int .i64 a0_5) rfl
     have hcz48_6:=zc BK161 6 (.int .i64 a0_6) rfl
     have hcz48_7:=zc BK161 7 (.int .i64 a0_7) rfl
     have hcz48_8:=zc BK161 8 (.int .i64 a0_8) rfl
     have hfz48_0:=blk_frozen BK161.out 0
     have hfz48_1:=blk_frozen BK161.out 1
     have hfz48_2:=blk_frozen BK161.out 2
     have hfz48_3:=blk_frozen BK161.out 3
     have hfz48_4:=blk_frozen BK161.out 4
     have hfz48_5:=blk_frozen BK161.out 5
     have hfz48_6:=blk_frozen BK161.out 6
     have hfz48_7:=blk_frozen BK161.out 7
     have hfz48_8:=blk_frozen BK161.out 8
     go_wp2_with (first|((with_reducible refine gate_callee (f:=50) rfl ?_);refine goesL_ (some 49) rfl rfl Try.func50 zk rfl #[.agg #[.int .i64 a0_0,.slice A0_1 l0_1.length c0_1]] rfl zA ?_;(with_reducible refine (sample_Frames.calls kj29 a0_0 _ _ l0_1 t166 _ ?side1 ?side2 A39.out).mono ?_);(case side1=>repeat (first|exact (Kd.C_below HR0_1.out HB.out)|(with_reducible refine Kd.C_alloc ?_ _)|(with_reducible refine Kd.C_drewN ?_ _)|(with_reducible refine Kd.C_drew ?_)));(case side2=>exact HC0_1.out);rintro e w49 ⟨rfl,hb⟩;refine ⟨_,rfl,?_⟩;replace BK161:=Aside0.mk (blk_below (zB BK161) hb);replace BK162:=Aside0.mk (blk_below (zB BK162) hb);replace HB:=Aside0.mk (below_step (zW HB) hb);(try clear hb);have hcz50_0:=zc BK161 0 (.int .i64 a0_0) rfl;have hcz50_1:=zc BK161 1 (.slice A0_1 l0_1.length c0_1) rfl;have hcz50_2:=zc BK161 2 (.int .i64 a0_2) rfl;have hcz50_3:=zc BK161 3 (.int .i64 a0_3) rfl;have hcz50_4:=zc BK161 4 (.slice A0_4 l0_4.length c0_4) rfl;have hcz50_5:=zc BK161 5 (.int .i64 a0_5) rfl;have hcz50_6:=zc BK161 6 (.int .i64 a0_6) rfl;have hcz50_7:=zc BK161 7 (.int .i64 a0_7) rfl;have hcz50_8:=zc BK161 8 (.int .i64 a0_8) rfl;have hfz50_0:=blk_frozen BK161.out 0;have hfz50_1:=blk_frozen BK161.out 1;have hfz50_2:=blk_frozen BK161.out 2;have hfz50_3:=blk_frozen BK161.out 3;have hfz50_4:=blk_frozen BK161.out 4;have hfz50_5:=blk_frozen BK161.out 5;have hfz50_6:=blk_frozen BK161.out 6;have hfz50_7:=blk_frozen BK161.out 7;have hfz50_8:=blk_frozen BK161.out 8)|((with_reducible refine gate_callee (f:=51) rfl ?_);refine goesL_ (some 58) rfl rfl Try.func51 zk rfl #[.agg #[.int .i64 a0_2,.int .i64 a0_3,.slice A0_4 l0_4.length c0_4],.agg #[.int .i64 a0_0,.slice A0_1 l0_1.length c0_1]] rfl zA ?_;(with_reducible refine (matrix_Apply.calls kj29 a0_2 a0_3 _ _ l0_4 a0_0 _ _ l0_1 t167 t168 t171 _ ?side1 ?side2 ?side3 ?side4 A45.out).mono ?_);(case side1=>repeat (first|exact (Kd.C_below HR0_4.out HB.out)|(with_reducible refine Kd.C_alloc ?_ _)|(with_reducible refine Kd.C_drewN ?_ _)|(with_reducible refine Kd.C_drew ?_)));(case side2=>exact HC0_4.out);(case side3=>repeat (first|exact (Kd.C_below HR0_1.out HB.out)|(with_reducible refine Kd.C_alloc ?_ _)|(with_reducible refine Kd.C_drewN ?_ _)|(with_reducible refine Kd.C_drew ?_)));(case side4=>exact HC0_1.out);rintro e w51 ⟨v169,rfl,ho0,hb⟩;refine ⟨_,rfl,?_⟩;have HO170:=Aside0.mk (Kd.R_lower ho0 (below_size (zW HB)));replace BK161:=Aside0.mk (blk_below (zB BK161) hb);replace BK162:=Aside0.mk (blk_below (zB BK162) hb);replace HB:=Aside0.mk (below_step (zW HB) hb);(try clear hb);(try clear ho0))|((with_reducible refine gate_dst (N:=8) rfl ?_);refine box_event ?hg (N:=8) ?hd (cs:=#[.int .i64 0,.slice none 0 0]) (t:=43) ?hr ?_;(case hd=>rfl);(case hg=>rfl);(case hr=>first|(go_simp;done)|(go_simp;rfl));intro gb172 hg w52 hbox hb;replace HO170:=Aside0.mk (Kd.R_below (zR HO170) hb);have BK172:=Aside0.mk hbox;have GW172:=Aside0.mk (zS hg HB);have GE172:=Aside0.mk (zS hg HB);replace HB:=Aside0.mk (below_step (zW HB) hb);have NB161_172:=Aside0.mk (zL hg BK161);have NB172_161:=Aside0.mk (zG hg BK161);replace BK161:=Aside0.mk (blk_below (zB BK161) hb);have NB162_172:=Aside0.mk (zL hg BK162);have NB172_162:=Aside0.mk (zG hg BK162);replace BK162:=Aside0.mk (blk_below (zB BK162) hb);clear hb hbox hg;have hnb53:=NB172_161.out;have hnc53:=NB161_172.out;have hnb54:=NB172_162.out;have hnc54:=NB162_172.out;have hcz55_0:=zc BK172 0 (.int .i64 0) rfl;have hcz55_1:=zc BK172 1 (.slice none 0 0) rfl;have hfz55_0:=blk_frozen BK172.out 0;have hfz55_1:=blk_frozen BK172.out 1;obtain ⟨Ao56,co56,eo56⟩:=Kd.R_slice HO170.out;subst eo56;have hcz57_0:=zc BK161 0 (.int .i64 a0_0) rfl;have hcz57_1:=zc BK161 1 (.slice A0_1 l0_1.length c0_1) rfl;have hcz57_2:=zc BK161 2 (.int .i64 a0_2) rfl;have hcz57_3:=zc BK161 3 (.int .i64 a0_3) rfl;have hcz57_4:=zc BK161 4 (.slice A0_4 l0_4.length c0_4) rfl;have hcz57_5:=zc BK161 5 (.int .i64 a0_5) rfl;have hcz57_6:=zc BK161 6 (.int .i64 a0_6) rfl;have hcz57_7:=zc BK161 7 (.int .i64 a0_7) rfl;have hcz57_8:=zc BK161 8 (.int .i64 a0_8) rfl;have hfz57_0:=blk_frozen BK161.out 0;have hfz57_1:=blk_frozen BK161.out 1;have hfz57_2:=blk_frozen BK161.out 2;have hfz57_3:=blk_frozen BK161.out 3;have hfz57_4:=blk_frozen BK161.out 4;have hfz57_5:=blk_frozen BK161.out 5;have hfz57_6:=blk_frozen BK161.out 6;have hfz57_7:=blk_frozen BK161.out 7;have hfz57_8:=blk_frozen BK161.out 8)|((with_reducible refine gate_callee (f:=41) rfl ?_);refine goesL_ (some 65) rfl rfl Try.func41 zk rfl #[.agg #[.int .i64 a0_5,.int .i64 a0_6,.int .i64 a0_7,.int .i64 a0_8],.agg #[.int .i64 t167,.slice Ao56 t168.length co56]] rfl zA ?_;(with_reducible refine (gain_Run.calls kj29 a0_5 a0_6 a0_7 a0_8 t167 _ _ t168 t173 t174 t177 t178 t179 t180 t181 _ ?side1 ?side2 A46.out).mono ?_);(case side1=>refine (Kd.R_reads' (e:=21) (base:=w.heap.size) (ok:=fun k_=>True) (n:=t168.length) (c:=co56) ?_).2.2;exact (by (with_reducible repeat (first|apply Kd.R_alloc|apply Kd.R_drewN|apply Kd.R_drew));exact (Kd.R_mono (Kd.R_far (p:=⟨gb172,1,none⟩) (Kd.R_far (p:=⟨gb172,0,none⟩) (Kd.R_types HO170.out BK172.out (by decide)) (fun _ hk=>hk.2) (.int .i64 t167)) (fun _ hk=>hk.2) (.slice Ao56 t168.length co56)) (fun _ h_=>h_.1))));(case side2=>exact (Kd.R_reads' HO170.out).2.1);rintro e w58 ⟨v175,rfl,ho0,hb⟩;refine ⟨_,rfl,?_⟩;have HO176:=Aside0.mk (Kd.R_lower (Kd.R_new' ho0 (Kd.R_lt (by (with_reducible repeat (first|apply Kd.R_alloc|apply Kd.R_drewN|apply Kd.R_drew));exact (Kd.R_mono (Kd.R_far (p:=⟨gb172,1,none⟩) (Kd.R_far (p:=⟨gb172,0,none⟩) (Kd.R_types HO170.out BK172.out (by decide)) (fun _ hk=>hk.2) (.int .i64 t167)) (fun _ hk=>hk.2) (.slice Ao56 t168.length co56)) (fun _ h_=>h_.1))))) (below_size (zW HB)));replace HO170:=Aside0.mk (Kd.R_elder' (by (with_reducible repeat (first|apply Kd.R_alloc|apply Kd.R_drewN|apply Kd.R_drew));exact (Kd.R_mono (Kd.R_far (p:=⟨gb172,1,none⟩) (Kd.R_far (p:=⟨gb172,0,none⟩) (Kd.R_types HO170.out BK172.out (by decide)) (fun _ hk=>hk.2) (.int .i64 t167)) (fun _ hk=>hk.2) (.slice Ao56 t168.length co56)) (fun _ h_=>h_.1))) (Kd.R_base ho0) hb);replace BK161:=Aside0.mk (blk_below (zB BK161) hb);replace BK162:=Aside0.mk (blk_below (zB BK162) hb);replace BK172:=Aside0.mk (blk_below (g:=gb172) (o:=.cells #[.int .i64 t167,.slice Ao56 t168.length co56] 43 (0,0)) (zB BK172) hb);replace HB:=Aside0.mk (below_step (zW HB) hb);(try clear hb);(try clear ho0))|((with_reducible refine gate_dst (N:=10) rfl ?_);refine box_event ?hg (N:=10) ?hd (cs:=#[.int .i64 0,.int .i64 0,.int .i64 0,.int .i64 0]) (t:=52) ?hr ?_;(case hd=>rfl);(case hg=>rfl);(case hr=>first|(go_simp;done)|(go_simp;rfl));intro gb182 hg w59 hbox hb;replace HO170:=Aside0.mk (Kd.R_below (zR HO170) hb);replace HO176:=Aside0.mk (Kd.R_below (zR HO176) hb);have BK182:=Aside0.mk hbox;have GW182:=Aside0.mk (zS hg HB);have GE182:=Aside0.mk (zS hg HB);replace HB:=Aside0.mk (below_step (zW HB) hb);have NB161_182:=Aside0.mk (zL hg BK161);have NB182_161:=Aside0.mk (zG hg BK161);replace BK161:=Aside0.mk (blk_below (zB BK161) hb);have NB162_182:=Aside0.mk (zL hg BK162);have NB182_162:=Aside0.mk (zG hg BK162);replace BK162:=Aside0.mk (blk_below (zB BK162) hb);have NB172_182:=Aside0.mk (zL hg BK172);have NB182_172:=Aside0.mk (zG hg BK172);replace BK172:=Aside0.mk (blk_below (zB BK172) hb);clear hb hbox hg;have hnb60:=NB172_182.out;have hnc60:=NB182_172.out;have hcz61_0:=zc BK172 0 (.int .i64 t167) rfl;have hcz61_1:=zc BK172 1 (.slice Ao56 t168.length co56) rfl;have hfz61_0:=blk_frozen BK172.out 0;have hfz61_1:=blk_frozen BK172.out 1;obtain ⟨Ao62,co62,eo62⟩:=Kd.R_slice HO176.out;subst eo62;have hnb63:=NB182_161.out;have hnc63:=NB161_182.out;have hnb64:=NB182_162.out;have hnc64:=NB162_182.out;have hcz65_0:=zc BK182 0 (.int .i64 0) rfl;have hcz65_1:=zc BK182 1 (.int .i64 0) rfl;have hcz65_2:=zc BK182 2 (.int .i64 0) rfl;have hcz65_3:=zc BK182 3 (.int .i64 0) rfl;have hfz65_0:=blk_frozen BK182.out 0;have hfz65_1:=blk_frozen BK182.out 1;have hfz65_2:=blk_frozen BK182.out 2;have hfz65_3:=blk_frozen BK182.out 3;have hcz66_0:=zc BK162 0 (.int .i64 0) rfl;have hcz66_1:=zc BK162 1 (.slice none 0 0) rfl;have hfz66_0:=blk_frozen BK162.out 0;have hfz66_1:=blk_frozen BK162.out 1))
     refine bodyPost_ret (results_ct rfl _ _ gb162 43 #[.int .i64 t173,.slice Ao62 t174.length co62] (0,0) _ rfl (zB BK162) Try.underlying43 rfl zk) rfl ?_
     exact ⟨_,zX,by (with_reducible repeat (first|apply Kd.R_alloc|apply Kd.R_drewN|apply Kd.R_drew));exact Kd.R_mono (Kd.R_far (p:=⟨gb162,1,none⟩) (Kd.R_far (p:=⟨gb162,0,none⟩) (Kd.R_far (p:=⟨gb182,3,none⟩) (Kd.R_far (p:=⟨gb182,2,none⟩) (Kd.R_far (p:=⟨gb182,1,none⟩) (Kd.R_far (p:=⟨gb182,0,none⟩) (Kd.R_far (p:=⟨gb172,1,none⟩) (Kd.R_far (p:=⟨gb172,0,none⟩) (Kd.R_types (Kd.R_types (Kd.R_types HO176.out BK172.out (by decide)) BK182.out (by decide)) BK162.out (by decide)) (fun _ hk=>hk.1.1.2) (.int .i64 t173)) (fun _ hk=>hk.1.1.2) (.slice Ao62 t174.length co62)) (fun _ hk=>hk.1.2) (.int .i64 t177)) (fun _ hk=>hk.1.2) (.int .i64 t178)) (fun _ hk=>hk.1.2) (.int .i64 t179)) (fun _ hk=>hk.1.2) (.int .i64 t180)) (fun _ hk=>hk.2) (.int .i64 t173)) (fun _ hk=>hk.2) (.slice Ao62 t174.length co62)) (fun _ hk=>trivial),zW HB⟩

end Go.Proofs.Ytcnmemcclhahnaa.QT
