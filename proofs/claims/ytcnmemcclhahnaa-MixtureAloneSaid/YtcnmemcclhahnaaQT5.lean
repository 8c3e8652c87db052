-- Written by a program of this session, out of the seat's translation; checked by the kernel alone.
import Derived.Test.YtcnmemcclhahnaaQT0
import Derived.Test.YtcnmemcclhahnaaQT2
import Derived.Test.YtcnmemcclhahnaaQT4
namespace Go.Proofs.Ytcnmemcclhahnaa.QT
open Go.RowKit Go.Proofs.YtcnmemcclhahnaaW.PrintWords Go.Proofs.YtcnmemcclhahnaaW.PrintLast Go.Proofs.YtcnmemcclhahnaaW.PrintMore
attribute [local go_sem] max2_int min2_int max_two min_two max_three min_three max_four min_four   -- for this text's walks alone
set_option linter.unusedVariables false
set_option linter.unusedSimpArgs false

mutual
def matrix_Apply.j0 : Nat→Bool→Int→Int→List Int→Int→List Int→Option (Int×List Int×Int)
 | 0,_,_,_,_,_,_=>none
 | k+1,x21,x145000,x145001,x145002,x146000,x146001=>if x21=true then (some (0,([] : List Int),1)) else (if x146000=x145000 then ((matrix_rows.f k x145000 x145001 x145002).bind fun t149=>(matrix_Apply.l0 k t149 0 x145000 x145001 x145002 x146000 x146001 x145001 ([] : List Int))) else (some (0,([] : List Int),11)))
def matrix_Apply.l0 : Nat→List (List Int)→Int→Int→Int→List Int→Int→List Int→Int→List Int→Option (Int×List Int×Int)
 | 0,_,_,_,_,_,_,_,_,_=>none
 | k+1,x6,x8,x145000,x145001,x145002,x146000,x146001,x153000,x153001=>if x8<(x146001.length : Int) then (matrix_Apply.l1 k x6 x8 x6 (x6.length : Int) 0 x145000 x145001 x145002 x146000 x146001 x153000 x153001) else (some (x153000,x153001,0))
def matrix_Apply.l1 : Nat→List (List Int)→Int→List (List Int)→Int→Int→Int→Int→List Int→Int→List Int→Int→List Int→Option (Int×List Int×Int)
 | 0,_,_,_,_,_,_,_,_,_,_,_,_=>none
 | k+1,x6,x8,x43,x44,x45,x145000,x145001,x145002,x146000,x146001,x153000,x153001=>if x45<x44 then (if 0≤x45 then (if x45<(x43.length : Int) then (if 0≤x8 then (if x8≤(wrap64 (x8+x145000)) then (if (wrap64 (x8+x145000))≤(x146001.length : Int) then (matrix_Apply.l2 k x6 x8 (rd_L2 x43 x45) 0 x43 x44 x45 ((x146001.take ((wrap64 (x8+x145000)) : Int).toNat).drop (x8 : Int).toNat) (((x146001.take ((wrap64 (x8+x145000)) : Int).toNat).drop (x8 : Int).toNat).length : Int) 0 x145000 x145001 x145002 x146000 x146001 x153000 x153001) else (none)) else (none)) else (none)) else (none)) else (none)) else (matrix_Apply.l0 k x6 (wrap64 (x8+x145000)) x145000 x145001 x145002 x146000 x146001 x153000 x153001)
def matrix_Apply.l2 : Nat→List (List Int)→Int→List Int→Int→List (List Int)→Int→Int→List Int→Int→Int→Int→Int→List Int→Int→List Int→Int→List Int→Option (Int×List Int×Int)
 | 0,_,_,_,_,_,_,_,_,_,_,_,_,_,_,_,_,_=>none
 | k+1,x6,x8,x10,x11,x43,x44,x45,x56,x57,x58,x145000,x145001,x145002,x146000,x146001,x153000,x153001=>if x58<x57 then (if 0≤x58 then (if x58<(x56.length : Int) then (if x58<(x10.length : Int) then (matrix_Apply.l2 k x6 x8 x10 (wrap64 (x11+(wrap64 ((rd x10 x58)*(wrap64 (rd x56 x58)))))) x43 x44 x45 x56 x57 (wrap64 (x58+1)) x145000 x145001 x145002 x146000 x146001 x153000 x153001) else (none)) else (none)) else (none)) else ((sample_Sat.f ((wrap64 (x11+16384)) / 32768)).bind fun t157=>(if x153001.length<35184372088832 then (matrix_Apply.l1 k x6 x8 x43 x44 (wrap64 (x45+1)) x145000 x145001 x145002 x146000 x146001 x153000 (x153001 ++ [t157])) else (none)))
end
def matrix_Apply.f (k : Nat) (a0_0 : Int) (a0_1 : Int) (l0_2 : List Int) (a1_0 : Int) (l1_1 : List Int) : Option (Int×List Int×Int):=(matrix_Valid.f k a0_0 a0_1 l0_2).bind fun t147=>(if t147=true then ((sample_Valid.f k a1_0 l1_1).bind fun t148=>(matrix_Apply.j0 k (!t148) a0_0 a0_1 l0_2 a1_0 l1_1)) else (matrix_Apply.j0 k true a0_0 a0_1 l0_2 a1_0 l1_1))
theorem matrix_Apply.mono_l : ∀ k,(∀ y0 y1 y2 y3 y4 y5,LeO (matrix_Apply.j0 k y0 y1 y2 y3 y4 y5) (matrix_Apply.j0 (k+1) y0 y1 y2 y3 y4 y5))∧(∀ y0 y1 y2 y3 y4 y5 y6 y7 y8,LeO (matrix_Apply.l0 k y0 y1 y2 y3 y4 y5 y6 y7 y8) (matrix_Apply.l0 (k+1) y0 y1 y2 y3 y4 y5 y6 y7 y8))∧(∀ y0 y1 y2 y3 y4 y5 y6 y7 y8 y9 y10 y11,LeO (matrix_Apply.l1 k y0 y1 y2 y3 y4 y5 y6 y7 y8 y9 y10 y11) (matrix_Apply.l1 (k+1) y0 y1 y2 y3 y4 y5 y6 y7 y8 y9 y10 y11))∧(∀ y0 y1 y2 y3 y4 y5 y6 y7 y8 y9 y10 y11 y12 y13 y14 y15 y16,LeO (matrix_Apply.l2 k y0 y1 y2 y3 y4 y5 y6 y7 y8 y9 y10 y11 y12 y13 y14 y15 y16) (matrix_Apply.l2 (k+1) y0 y1 y2 y3 y4 y5 y6 y7 y8 y9 y10 y11 y12 y13 y14 y15 y16))
 | 0=>⟨fun _ _ _ _ _ _ r h=>by simp [matrix_Apply.j0] at h,fun _ _ _ _ _ _ _ _ _ r h=>by simp [matrix_Apply.l0] at h,fun _ _ _ _ _ _ _ _ _ _ _ _ r h=>by simp [matrix_Apply.l1] at h,fun _ _ _ _ _ _ _ _ _ _ _ _ _ _ _ _ _ r h=>by simp [matrix_Apply.l2] at h⟩
 | k+1=>by
  obtain ⟨ih0,ih1,ih2,ih3⟩:=matrix_Apply.mono_l k;refine ⟨?_,?_,?_,?_⟩
  ·intro y0 y1 y2 y3 y4 y5;unfold matrix_Apply.j0
   repeat' first
   | (with_reducible exact ih0 _ _ _ _ _ _)
   | (with_reducible exact ih1 _ _ _ _ _ _ _ _ _)
   | (with_reducible exact ih2 _ _ _ _ _ _ _ _ _ _ _ _)
   | (with_reducible exact ih3 _ _ _ _ _ _ _ _ _ _ _ _ _ _ _ _ _)
   | (with_reducible exact matrix_Valid.mono _ _ _ _)
   | (with_reducible exact matrix_rows.mono _ _ _ _)
   | (with_reducible exact sample_Valid.mono _ _ _)
   | (with_reducible exact LeO.refl _)
   | (with_reducible exact LeO.none _)
   | (with_reducible refine LeO.ite ?_ ?_)
   | (with_reducible refine LeO.bind ?_ (fun _=>?_))
   | exact ih0 _ _ _ _ _ _
   | exact ih1 _ _ _ _ _ _ _ _ _
   | exact ih2 _ _ _ _ _ _ _ _ _ _ _ _
   | exact ih3 _ _ _ _ _ _ _ _ _ _ _ _ _ _ _ _ _
   | exact matrix_Valid.mono _ _ _ _
   | exact matrix_rows.mono _ _ _ _
   | exact sample_Valid.mono _ _ _
   | exact LeO.none _
   | refine LeO.ite ?_ ?_
   | refine LeO.bind ?_ (fun _=>?_)
  ·intro y0 y1 y2 y3 y4 y5 y6 y7 y8;unfold matrix_Apply.l0
   repeat' first
   | (with_reducible exact ih0 _ _ _ _ _ _)
   | (with_reducible exact ih1 _ _ _ _ _ _ _ _ _)
   | (with_reducible exact ih2 _ _ _ _ _ _ _ _ _ _ _ _)
   | (with_reducible exact ih3 _ _ _ _ _ _ _ _ _ _ _ _ _ _ _ _ _)
   | (with_reducible exact matrix_Valid.mono _ _ _ _)
   | (with_reducible exact matrix_rows.mono _ _ _ _)
   | (with_reducible exact sample_Valid.mono _ _ _)
   | (with_reducible exact LeO.refl _)
   | (with_reducible exact LeO.none _)
   | (with_reducible refine LeO.ite ?_ ?_)
   | (with_reducible refine LeO.bind ?_ (fun _=>?_))
   | exact ih0 _ _ _ _ _ _
   | exact ih1 _ _ _ _ _ _ _ _ _
   | exact ih2 _ _ _ _ _ _ _ _ _ _ _ _
   | exact ih3 _ _ _ _ _ _ _ _ _ _ _ _ _ _ _ _ _
   | exact matrix_Valid.mono _ _ _ _
   | exact matrix_rows.mono _ _ _ _
   | exact sample_Valid.mono _ _ _
   | exact LeO.none _
   | refine LeO.ite ?_ ?_
   | refine LeO.bind ?_ (fun _=>?_)
  ·intro y0 y1 y2 y3 y4 y5 y6 y7 y8 y9 y10 y11;unfold matrix_Apply.l1
   repeat' first
   | (with_reducible exact ih0 _ _ _ _ _ _)
   | (with_reducible exact ih1 _ _ _ _ _ _ _ _ _)
   | (with_reducible exact ih2 _ _ _ _ _ _ _ _ _ _ _ _)
   | (with_reducible exact ih3 _ _ _ _ _ _ _ _ _ _ _ _ _ _ _ _ _)
   | (with_reducible exact matrix_Valid.mono _ _ _ _)
   | (with_reducible exact matrix_rows.mono _ _ _ _)
   | (with_reducible exact sample_Valid.mono _ _ _)
   | (with_reducible exact LeO.refl _)
   | (with_reducible exact LeO.none _)
   | (with_reducible refine LeO.ite ?_ ?_)
   | (with_reducible refine LeO.bind ?_ (fun _=>?_))
   | exact ih0 _ _ _ _ _ _
   | exact ih1 _ _ _ _ _ _ _ _ _
   | exact ih2 _ _ _ _ _ _ _ _ _ _ _ _
   | exact ih3 _ _ _ _ _ _ _ _ _ _ _ _ _ _ _ _ _
   | exact matrix_Valid.mono _ _ _ _
   | exact matrix_rows.mono _ _ _ _
   | exact sample_Valid.mono _ _ _
   | exact LeO.none _
   | refine LeO.ite ?_ ?_
   | refine LeO.bind ?_ (fun _=>?_)
  ·intro y0 y1 y2 y3 y4 y5 y6 y7 y8 y9 y10 y11 y12 y13 y14 y15 y16;unfold matrix_Apply.l2
   repeat' first
   | (with_reducible exact ih0 _ _ _ _ _ _)
   | (with_reducible exact ih1 _ _ _ _ _ _ _ _ _)
   | (with_reducible exact ih2 _ _ _ _ _ _ _ _ _ _ _ _)
   | (with_reducible exact ih3 _ _ _ _ _ _ _ _ _ _ _ _ _ _ _ _ _)
   | (with_reducible exact matrix_Valid.mono _ _ _ _)
   | (with_reducible exact matrix_rows.mono _ _ _ _)
   | (with_reducible exact sample_Valid.mono _ _ _)
   | (with_reducible exact LeO.refl _)
   | (with_reducible exact LeO.none _)
   | (with_reducible refine LeO.ite ?_ ?_)
   | (with_reducible refine LeO.bind ?_ (fun _=>?_))
   | exact ih0 _ _ _ _ _ _
   | exact ih1 _ _ _ _ _ _ _ _ _
   | exact ih2 _ _ _ _ _ _ _ _ _ _ _ _
   | exact ih3 _ _ _ _ _ _ _ _ _ _ _ _ _ _ _ _ _
   | exact matrix_Valid.mono _ _ _ _
   | exact matrix_rows.mono _ _ _ _
   | exact sample_Valid.mono _ _ _
   | exact LeO.none _
   | refine LeO.ite ?_ ?_
   | refine LeO.bind ?_ (fun _=>?_)
theorem matrix_Apply.mono : ∀ a0 a1 a2 a3 a4 k,LeO (matrix_Apply.f k a0 a1 a2 a3 a4) (matrix_Apply.f (k+1) a0 a1 a2 a3 a4):=by
 intro a0 a1 a2 a3 a4 k;obtain ⟨ih0,ih1,ih2,ih3⟩:=matrix_Apply.mono_l k;unfold matrix_Apply.f
 repeat' first
   | (with_reducible exact ih0 _ _ _ _ _ _)
   | (with_reducible exact ih1 _ _ _ _ _ _ _ _ _)
   | (with_reducible exact ih2 _ _ _ _ _ _ _ _ _ _ _ _)
   | (with_reducible exact ih3 _ _ _ _ _ _ _ _ _ _ _ _ _ _ _ _ _)
   | (with_reducible exact matrix_Valid.mono _ _ _ _)
   | (with_reducible exact matrix_rows.mono _ _ _ _)
   | (with_reducible exact sample_Valid.mono _ _ _)
   | (with_reducible exact LeO.refl _)
   | (with_reducible exact LeO.none _)
   | (with_reducible refine LeO.ite ?_ ?_)
   | (with_reducible refine LeO.bind ?_ (fun _=>?_))
   | exact ih0 _ _ _ _ _ _
   | exact ih1 _ _ _ _ _ _ _ _ _
   | exact ih2 _ _ _ _ _ _ _ _ _ _ _ _
   | exact ih3 _ _ _ _ _ _ _ _ _ _ _ _ _ _ _ _ _
   | exact matrix_Valid.mono _ _ _ _
   | exact matrix_rows.mono _ _ _ _
   | exact sample_Valid.mono _ _ _
   | exact LeO.none _
   | refine LeO.ite ?_ ?_
   | refine LeO.bind ?_ (fun _=>?_)
def matrix_Apply.T19 : Bool×List (List Nat×List Nat):=(true,[([],[]),([0],[0]),([],[]),([2],[2]),([3],[3]),([4],[4]),([5],[5]),([1,6,5],[1,6]),([0,1,2,3,4,5,6,7],[]),([8,7,7,0,1,2,3,4,5,6,7],[7,8])])
def matrix_Apply.B19 : List Nat:=[0,1,0,4,12,28,60,127,255,511]
theorem matrix_Apply.tab19 : rtab .any (opsOf Try.f51 19)=matrix_Apply.T19:=by kernel_rfl
theorem matrix_Apply.bits19 : waitsOk matrix_Apply.T19.2 matrix_Apply.B19=true:=by kernel_rfl
set_option maxHeartbeats 8000000 in
set_option maxRecDepth 100000 in
theorem matrix_Apply.calls (k : Nat) (a0_0 : Int) (a0_1 : Int) (A0_2 : Option Addr) (c0_2 : Nat) (l0_2 : List Int) (a1_0 : Int) (A1_1 : Option Addr) (c1_1 : Nat) (l1_1 : List Int) (r1 : Int) (r2 : List Int) (r3 : Int) (w : World) (hr0_2 : Kd.C (Kd.int .i64) w A0_2 l0_2.length l0_2) (hc0_2 : l0_2.length≤c0_2) (hr1_1 : Kd.C (Kd.int .i32) w A1_1 l1_1.length l1_1) (hc1_1 : l1_1.length≤c1_1) (h : matrix_Apply.f k a0_0 a0_1 l0_2 a1_0 l1_1=some (r1,r2,r3)) :
  Calls Try.prog 51 #[.agg #[.int .i64 a0_0,.int .i64 a0_1,.slice A0_2 l0_2.length c0_2],.agg #[.int .i64 a1_0,.slice A1_1 l1_1.length c1_1]] w fun e w'=>∃ v1_ : Value,e = .returned (.tuple #[.agg #[.int .i64 r1,v1_],.int .i64 r3])∧Kd.R (Kd.int .i32) 21 w' w.heap.size (fun _=>True) v1_ r2∧Below w.heap.size w w':=by
 have hu50:=Try.underlying50;have hu43:=Try.underlying43;have HR0_2:=zo hr0_2;have HC0_2:=zo hc0_2;clear hr0_2 hc0_2;have HR1_1:=zo hr1_1;have HC1_1:=zo hc1_1;clear hr1_1 hc1_1;have HB:=zo (Below.refl w.heap.size w);have H:=h;unfold matrix_Apply.f at H;clear h;have HC3:=zo H;clear H
 go_enter Try.func51,Try.ntmps51
 go_upto_region 1 with (first|((with_reducible refine gate_dst (N:=2) rfl ?_);refine box_event ?hg (N:=2) ?hd (cs:=#[.int .i64 a0_0,.int .i64 a0_1,.slice A0_2 l0_2.length c0_2]) (t:=50) ?hr ?_;(case hd=>rfl);(case hg=>rfl);(case hr=>first|(go_simp;done)|(go_simp;rfl));intro gb144 hg w4 hbox hb;have BK144:=zo hbox;have GW144:=zo (zS hg HB);have GE144:=zo (zS hg HB);replace HB:=zo (below_step (zW HB) hb);clear hb hbox hg)|((with_reducible refine gate_dst (N:=3) rfl ?_);refine box_event ?hg (N:=3) ?hd (cs:=#[.int .i64 a1_0,.slice A1_1 l1_1.length c1_1]) (t:=43) ?hr ?_;(case hd=>rfl);(case hg=>rfl);(case hr=>first|(go_simp;done)|(go_simp;rfl));intro gb145 hg w5 hbox hb;have BK145:=zo hbox;have GW145:=zo (zS hg HB);have GE145:=zo (zS hg HB);replace HB:=zo (below_step (zW HB) hb);have NB144_145:=zo (zL hg BK144);have NB145_144:=zo (zG hg BK144);replace BK144:=zo (blk_below (zB BK144) hb);clear hb hbox hg)|((with_reducible refine gate_dst (N:=4) rfl ?_);refine box_event ?hg (N:=4) ?hd (cs:=#[.int .i64 0,.slice none 0 0]) (t:=43) ?hr ?_;(case hd=>rfl);(case hg=>rfl);(case hr=>first|(go_simp;done)|(go_simp;rfl));intro gb146 hg w6 hbox hb;have BK146:=zo hbox;have GW146:=zo (zS hg HB);have GE146:=zo (zS hg HB);replace HB:=zo (below_step (zW HB) hb);have NB144_146:=zo (zL hg BK144);have NB146_144:=zo (zG hg BK144);replace BK144:=zo (blk_below (zB BK144) hb);have NB145_146:=zo (zL hg BK145);have NB146_145:=zo (zG hg BK145);replace BK145:=zo (blk_below (zB BK145) hb);clear hb hbox hg))
 (try simp only [Act.put,List.setIfInBounds_toArray,List.set_cons_zero,List.set_cons_succ])
 go_cut [21] (fun v21 wc=>∃ (kq : Nat) (x21_2 : Bool),v21 = .bool x21_2∧Aside0 (matrix_Apply.j0 kq x21_2 a0_0 a0_1 l0_2 a1_0 l1_1=some (r1,r2,r3))∧Aside0 (kq≤k)∧Aside0 (wc.heap[gb144]?=some (.cells #[.int .i64 a0_0,.int .i64 a0_1,(.slice A0_2 l0_2.length c0_2)] 50 (0,0)))∧Aside0 (wc.heap[gb145]?=some (.cells #[.int .i64 a1_0,(.slice A1_1 l1_1.length c1_1)] 43 (0,0)))∧Aside0 (wc.heap[gb146]?=some (.cells #[.int .i64 0,(.slice none 0 0)] 43 (0,0)))∧Aside0 (Below w.heap.size w wc))
 case first=>
  have H:=HC3.out;clear HC3;replace H:=Option.bind_eq_some_iff.mp H;obtain ⟨t147,A70,H⟩:=H
  try dsimp only at H
  have A7:=zo A70;clear A70
  by_cases c8 : t147=true
  rotate_left
  ·replace c8:=Bool.eq_false_iff.mpr c8;subst c8;have H1:=H;rw [if_neg (show ¬ (false=true) by decide)] at H1;clear H;have H:=H1;clear H1;have H':=zo H;clear H;have hnb17:=NB144_145.out;have hnc17:=NB145_144.out;have hnb18:=NB144_146.out;have hnc18:=NB146_144.out;obtain ⟨hcz19_0,hfz19_0,hcz19_1,hfz19_1,hcz19_2,hfz19_2⟩:=zn3 BK144
   go_wp2_with (first|((with_reducible refine gate_callee (f:=49) rfl ?_);refine goesL_ (some 15) rfl rfl Try.func49 zk rfl #[.agg #[.int .i64 a0_0,.int .i64 a0_1,.slice A0_2 l0_2.length c0_2]] rfl zA ?_;(with_reducible refine (matrix_Valid.calls k a0_0 a0_1 _ _ l0_2 false _ ?side1 ?side2 A7.out).mono ?_);(case side1=>repeat (first|exact (Kd.C_below HR0_2.out HB.out)|(with_reducible refine Kd.C_alloc ?_ _)|(with_reducible refine Kd.C_drewN ?_ _)|(with_reducible refine Kd.C_drew ?_)));(case side2=>exact HC0_2.out);rintro e w20 ⟨rfl,hb⟩;refine ⟨_,rfl,?_⟩;replace BK144:=zo (blk_below (zB BK144) hb);replace BK145:=zo (blk_below (zB BK145) hb);replace BK146:=zo (blk_below (zB BK146) hb);replace HB:=zo (below_step (zW HB) hb);(try clear hb)))
   go_meet
   case rel=>exact ⟨_,(true),zE,H',⟨zY⟩,⟨zB BK144⟩,⟨zB BK145⟩,⟨zB BK146⟩,⟨zW HB⟩⟩
  subst c8;have H1:=H;rw [if_pos rfl] at H1;clear H;have H:=H1;clear H1;replace H:=Option.bind_eq_some_iff.mp H;obtain ⟨t148,A90,H⟩:=H
  try dsimp only at H
  have A9:=zo A90;clear A90;have H':=zo H;clear H;have hnb10:=NB144_145.out;have hnc10:=NB145_144.out;have hnb11:=NB144_146.out;have hnc11:=NB146_144.out;obtain ⟨hcz12_0,hfz12_0,hcz12_1,hfz12_1,hcz12_2,hfz12_2⟩:=zn3 BK144
  go_wp2_with (first|((with_reducible refine gate_callee (f:=49) rfl ?_);refine goesL_ (some 15) rfl rfl Try.func49 zk rfl #[.agg #[.int .i64 a0_0,.int .i64 a0_1,.slice A0_2 l0_2.length c0_2]] rfl zA ?_;(with_reducible refine (matrix_Valid.calls k a0_0 a0_1 _ _ l0_2 true _ ?side1 ?side2 A7.out).mono ?_);(case side1=>repeat (first|exact (Kd.C_below HR0_2.out HB.out)|(with_reducible refine Kd.C_alloc ?_ _)|(with_reducible refine Kd.C_drewN ?_ _)|(with_reducible refine Kd.C_drew ?_)));(case side2=>exact HC0_2.out);rintro e w13 ⟨rfl,hb⟩;refine ⟨_,rfl,?_⟩;replace BK144:=zo (blk_below (zB BK144) hb);replace BK145:=zo (blk_below (zB BK145) hb);replace BK146:=zo (blk_below (zB BK146) hb);replace HB:=zo (below_step (zW HB) hb);(try clear hb);have hnb14:=NB145_146.out;have hnc14:=NB146_145.out;obtain ⟨hcz15_0,hfz15_0,hcz15_1,hfz15_1⟩:=zn2 BK145)|(go_at_call 48;(with_reducible refine (sample_Valid.calls k a1_0 _ _ l1_1 t148 _ ?side1 ?side2 A9.out).mono ?_);(case side1=>repeat (first|exact (Kd.C_below HR1_1.out HB.out)|(with_reducible refine Kd.C_alloc ?_ _)|(with_reducible refine Kd.C_drewN ?_ _)|(with_reducible refine Kd.C_drew ?_)));(case side2=>exact HC1_1.out);rintro e w16 ⟨rfl,hb⟩;replace BK144:=zo (blk_below (zB BK144) hb);replace BK145:=zo (blk_below (zB BK145) hb);replace BK146:=zo (blk_below (zB BK146) hb);replace HB:=zo (below_step (zW HB) hb);(try clear hb)))
  go_meet
  case rel=>exact ⟨_,(!t148),zE,H',⟨zY⟩,⟨zB BK144⟩,⟨zB BK145⟩,⟨zB BK146⟩,⟨zW HB⟩⟩
 case rest=>
  clear HC3
  try clear c1
  try clear p2
  try clear c4
  try clear c5
  try clear c8
  try clear c10
  try clear c11
  try clear c14
  try clear c17
  try clear c18
  obtain ⟨kq,x21_2,rfl,HA,HJ2,BK144,BK145,BK146,HB⟩:=hcut
  cases kq with
  | zero=>exact absurd HA.out (by simp [matrix_Apply.j0])
  | succ kj2=>
   have H:=HA.out;clear HA;simp only [matrix_Apply.j0] at H
   by_cases c21 : x21_2=true
   ·subst c21;have H1:=H;rw [if_pos rfl] at H1;clear H;have H:=H1;clear H1;simp only [Option.some.injEq,Prod.mk.injEq] at H;obtain ⟨rfl,rfl,rfl⟩:=H;have hnb22:=NB146_144.out;have hnc22:=NB144_146.out;have hnb23:=NB146_145.out;have hnc23:=NB145_146.out;obtain ⟨hcz24_0,hfz24_0,hcz24_1,hfz24_1⟩:=zn2 BK146
    go_wp2
    refine bodyPost_ret (results_ct rfl _ _ gb146 43 #[.int .i64 0,.slice none 0 0] (0,0) _ rfl (zB BK146) Try.underlying43 rfl zk) rfl ?_;exact ⟨_,zX,by first|exact Kd.R_nil _ _ _ _ _|exact Kd.N_nil _ _ _ _ _|exact Kd.V_nil _ _ _ _ _|exact Kd.Q_nil _ _ _ _ _|exact Kd.S_nil _ _ _ _ _,zW HB⟩
   replace c21:=Bool.eq_false_iff.mpr c21;subst c21;have H1:=H;rw [if_neg (show ¬ (false=true) by decide)] at H1;clear H;have H:=H1;clear H1
   by_cases c25 : a1_0=a0_0
   rotate_left
   ·rw [if_neg c25] at H;have c25b0 : (a1_0 == a0_0)=false:=beq_eq_false_iff_ne.mpr c25;have c25b1 : (a1_0 != a0_0)=true:=bne_iff_ne.mpr c25;simp only [Option.some.injEq,Prod.mk.injEq] at H;obtain ⟨rfl,rfl,rfl⟩:=H;have hnb84:=NB145_144.out;have hnc84:=NB144_145.out;have hnb85:=NB145_146.out;have hnc85:=NB146_145.out;obtain ⟨hcz86_0,hfz86_0,hcz86_1,hfz86_1⟩:=zn2 BK145;have hnb87:=NB144_146.out;have hnc87:=NB146_144.out;obtain ⟨hcz88_0,hfz88_0,hcz88_1,hfz88_1,hcz88_2,hfz88_2⟩:=zn3 BK144;obtain ⟨hcz89_0,hfz89_0,hcz89_1,hfz89_1⟩:=zn2 BK146
    go_wp2
    refine bodyPost_ret (results_ct rfl _ _ gb146 43 #[.int .i64 0,.slice none 0 0] (0,0) _ rfl (zB BK146) Try.underlying43 rfl zk) rfl ?_;exact ⟨_,zX,by first|exact Kd.R_nil _ _ _ _ _|exact Kd.N_nil _ _ _ _ _|exact Kd.V_nil _ _ _ _ _|exact Kd.Q_nil _ _ _ _ _|exact Kd.S_nil _ _ _ _ _,zW HB⟩
   rw [if_pos c25] at H;have c25b0 : (a1_0 == a0_0)=true:=beq_iff_eq.mpr c25;have c25b1 : (a1_0 != a0_0)=false:=bne_eq_false_iff_eq.mpr c25;clear c25;replace H:=Option.bind_eq_some_iff.mp H;obtain ⟨t149,A260,H⟩:=H
   try dsimp only at H
   have A26:=zo A260;clear A260;have H':=zo H;clear H;have hnb27:=NB145_144.out;have hnc27:=NB144_145.out;have hnb28:=NB145_146.out;have hnc28:=NB146_145.out;obtain ⟨hcz29_0,hfz29_0,hcz29_1,hfz29_1⟩:=zn2 BK145;have hnb30:=NB144_146.out;have hnc30:=NB146_144.out;obtain ⟨hcz31_0,hfz31_0,hcz31_1,hfz31_1,hcz31_2,hfz31_2⟩:=zn3 BK144
   go_wp2_with (first|((with_reducible refine gate_callee (f:=68) rfl ?_);refine goesL_ (some 30) rfl rfl Try.func68 zk rfl #[.agg #[.int .i64 a0_0,.int .i64 a0_1,.slice A0_2 l0_2.length c0_2]] rfl zA ?_;(with_reducible refine (matrix_rows.calls kj2 a0_0 a0_1 (fun k_=>k_<w.heap.size) _ _ l0_2 t149 _ ?side1 A26.out).mono ?_);(case side1=>exact Kd.V_mk HC0_2.out (Kd.F_below (Kd.C_F (Kd.heap_int .i64) HR0_2.out) (zW HB)));rintro e w32 ⟨v150,rfl,ho0,hb⟩;refine ⟨_,rfl,?_⟩;have HO151:=zo (Kd.N_lower (Kd.N_mono (ok':=fun k_=>k_≠gb144∧k_≠gb145∧k_≠gb146) ho0 (fun k_ hk_=>⟨Or.elim hk_ (fun hs_=>fun e_=>Nat.not_le.2 hs_ (by rw [e_];exact GW144.out)) (fun hn_=>(Kd.freshB (g:=gb144) (o:=.cells #[.int .i64 a0_0,.int .i64 a0_1,.slice A0_2 l0_2.length c0_2] 50 (0,0)) (zB BK144) k_ hn_)),Or.elim hk_ (fun hs_=>fun e_=>Nat.not_le.2 hs_ (by rw [e_];exact GW145.out)) (fun hn_=>(Kd.freshB (g:=gb145) (o:=.cells #[.int .i64 a1_0,.slice A1_1 l1_1.length c1_1] 43 (0,0)) (zB BK145) k_ hn_)),Or.elim hk_ (fun hs_=>fun e_=>Nat.not_le.2 hs_ (by rw [e_];exact GW146.out)) (fun hn_=>(Kd.freshB (g:=gb146) (o:=.cells #[.int .i64 0,.slice none 0 0] 43 (0,0)) (zB BK146) k_ hn_))⟩)) (below_size (zW HB)));replace BK144:=zo (blk_below (zB BK144) hb);replace BK145:=zo (blk_below (zB BK145) hb);replace BK146:=zo (blk_below (zB BK146) hb);replace HB:=zo (below_step (zW HB) hb);(try clear hb);(try clear ho0);obtain ⟨hcz33_0,hfz33_0,hcz33_1,hfz33_1,hcz33_2,hfz33_2⟩:=zn3 BK144)|((with_reducible refine gate_dst (N:=7) rfl ?_);refine box_event ?hg (N:=7) ?hd (cs:=#[.int .i64 0,.slice none 0 0]) (t:=43) ?hr ?_;(case hd=>rfl);(case hg=>rfl);(case hr=>first|(go_simp;done)|(go_simp;rfl));intro gb152 hg w34 hbox hb;replace HO151:=zo (Kd.N_below (Kd.N_elderB (zN HO151) gb152 (Nat.le_of_eq hg.symm)) hb);have BK152:=zo hbox;have GW152:=zo (zS hg HB);have GE152:=zo (zS hg HB);replace HB:=zo (below_step (zW HB) hb);have NB144_152:=zo (zL hg BK144);have NB152_144:=zo (zG hg BK144);replace BK144:=zo (blk_below (zB BK144) hb);have NB145_152:=zo (zL hg BK145);have NB152_145:=zo (zG hg BK145);replace BK145:=zo (blk_below (zB BK145) hb);have NB146_152:=zo (zL hg BK146);have NB152_146:=zo (zG hg BK146);replace BK146:=zo (blk_below (zB BK146) hb);clear hb hbox hg;have hnb35:=NB152_144.out;have hnc35:=NB144_152.out;have hnb36:=NB152_145.out;have hnc36:=NB145_152.out;have hnb37:=NB152_146.out;have hnc37:=NB146_152.out;obtain ⟨hcz38_0,hfz38_0,hcz38_1,hfz38_1⟩:=zn2 BK152))
   go_loopg [8] kj2 (fun kq v8 w'=>∃ (x8_2 : Int) (x153001_2 : List Int) (u153001 : Value),v8 = .int .i64 x8_2∧Aside0 (matrix_Apply.l0 kq t149 x8_2 a0_0 a0_1 l0_2 a1_0 l1_1 a0_1 x153001_2=some (r1,r2,r3))∧Aside0 (kq≤kj2)∧Aside0 (Kd.N (Kd.slice 3 (Kd.int .i64)) 48 w' w.heap.size (fun k_=>some k_≠(u153001 : Value).ownBlock∧k_≠gb144∧k_≠gb145∧k_≠gb146∧k_≠gb152) v150 t149)∧Aside0 (Kd.R (Kd.int .i32) 21 w' w.heap.size (fun _=>True) u153001 x153001_2)∧Aside0 (w'.heap[gb144]?=some (.cells #[.int .i64 a0_0,.int .i64 a0_1,(.slice A0_2 l0_2.length c0_2)] 50 (0,0)))∧Aside0 (w'.heap[gb145]?=some (.cells #[.int .i64 a1_0,(.slice A1_1 l1_1.length c1_1)] 43 (0,0)))∧Aside0 (w'.heap[gb146]?=some (.cells #[.int .i64 0,(.slice none 0 0)] 43 (0,0)))∧Aside0 (w'.heap[gb152]?=some (.cells #[.int .i64 a0_1,u153001] 43 (0,0)))∧Aside0 (Below w.heap.size w w'))
   case atStart=>exact ⟨(0),(([] : List Int)),(.slice none 0 0),zE,H',⟨Nat.le_refl _⟩,⟨by (with_reducible repeat (first|apply Kd.N_alloc|apply Kd.N_drewN|apply Kd.N_drew));exact Kd.N_mono (Kd.N_far (p:=⟨gb152,1,none⟩) (Kd.N_far (p:=⟨gb152,0,none⟩) (Kd.N_mono HO151.out (fun k_ hk=>(⟨hk,hk.2⟩ : _∧k_≠gb152))) (fun _ hk=>hk.2) (.int .i64 a0_1)) (fun _ hk=>hk.2) (.slice none 0 0)) (fun _ hk=>⟨(by simp [Value.ownBlock]),⟨hk.1.1.1,⟨hk.1.1.2.1,⟨hk.1.1.2.2,hk.1.2⟩⟩⟩⟩)⟩,⟨by first|exact Kd.R_nil _ _ _ _ _|exact Kd.N_nil _ _ _ _ _|exact Kd.V_nil _ _ _ _ _|exact Kd.Q_nil _ _ _ _ _|exact Kd.S_nil _ _ _ _ _⟩,⟨zB BK144⟩,⟨zB BK145⟩,⟨zB BK146⟩,⟨zB BK152⟩,⟨zW HB⟩⟩
   case round=>
    clear H'
    try clear c1
    try clear c2
    try clear p2
    try clear c3
    try clear c4
    try clear c5
    try clear c6
    try clear c8
    try clear c10
    try clear c11
    try clear c14
    try clear c17
    try clear c18
    try clear c21
    try clear c22
    try clear c23
    try clear c25
    try clear c25b0
    try clear c25b1
    try clear c27
    try clear c28
    try clear c30
    try clear c35
    try clear c36
    try clear c37
    try clear p2
    obtain ⟨x8_2,x153001_2,u153001,rfl,HA,HK2,HO_6,HO_153001,BK144,BK145,BK146,BK152,HB⟩:=hrel
    cases gk with
    | zero=>exact absurd HA.out (by simp [matrix_Apply.l0])
    | succ k2=>
     have H:=HA.out;clear HA;simp only [matrix_Apply.l0] at H
     by_cases c39 : x8_2<(l1_1.length : Int)
     rotate_left
     ·rw [if_neg c39] at H;have c39b0:=decide_eq_false c39;clear c39;simp only [Option.some.injEq,Prod.mk.injEq] at H;obtain ⟨rfl,rfl,rfl⟩:=H;have hnb74:=NB145_144.out;have hnc74:=NB144_145.out;have hnb75:=NB145_146.out;have hnc75:=NB146_145.out;have hnb76:=NB145_152.out;have hnc76:=NB152_145.out;obtain ⟨hcz77_0,hfz77_0,hcz77_1,hfz77_1⟩:=zn2 BK145;have hnb78:=NB152_144.out;have hnc78:=NB144_152.out;have hnb79:=NB152_146.out;have hnc79:=NB146_152.out;obtain ⟨hcz80_0,hfz80_0,hcz80_1,hfz80_1⟩:=zn2 BK152;have hnb81:=NB146_144.out;have hnc81:=NB144_146.out;obtain ⟨hcz82_0,hfz82_0,hcz82_1,hfz82_1⟩:=zn2 BK146;obtain ⟨Ao83,co83,eo83⟩:=Kd.R_slice HO_153001.out;subst eo83
      go_wp2
      refine bodyPost_ret (results_ct rfl _ _ gb146 43 #[.int .i64 a0_1,.slice Ao83 x153001_2.length co83] (0,0) _ rfl (zB BK146) Try.underlying43 rfl zk) rfl ?_;exact ⟨_,zX,by (with_reducible repeat (first|apply Kd.R_alloc|apply Kd.R_drewN|apply Kd.R_drew));exact Kd.R_mono (Kd.R_far (p:=⟨gb146,1,none⟩) (Kd.R_far (p:=⟨gb146,0,none⟩) (Kd.R_types HO_153001.out BK146.out (by decide)) (fun _ hk=>hk.2) (.int .i64 a0_1)) (fun _ hk=>hk.2) (.slice Ao83 x153001_2.length co83)) (fun _ hk=>trivial),zW HB⟩
     rw [if_pos c39] at H;have c39b0:=decide_eq_true c39;clear c39;have H':=zo H;clear H;have hnb40:=NB145_144.out;have hnc40:=NB144_145.out;have hnb41:=NB145_146.out;have hnc41:=NB146_145.out;have hnb42:=NB145_152.out;have hnc42:=NB152_145.out;obtain ⟨hcz43_0,hfz43_0,hcz43_1,hfz43_1⟩:=zn2 BK145;obtain ⟨Ao44,co44,eo44⟩:=Kd.N_slice HO_6.out;subst eo44
     go_wp2
     go_loopg [45] k2 (fun kq v45 w'=>∃ (x45_3 : Int) (x153001_3 : List Int) (u153001 : Value),v45 = .int .i64 x45_3∧Aside0 (matrix_Apply.l1 kq t149 x8_2 t149 (t149.length : Int) x45_3 a0_0 a0_1 l0_2 a1_0 l1_1 a0_1 x153001_3=some (r1,r2,r3))∧Aside0 (kq≤k2)∧Aside0 (Kd.N (Kd.slice 3 (Kd.int .i64)) 48 w' w.heap.size (fun k_=>some k_≠(u153001 : Value).ownBlock∧k_≠gb144∧k_≠gb145∧k_≠gb146∧k_≠gb152) (.slice Ao44 t149.length co44) t149)∧Aside0 (Kd.N (Kd.slice 3 (Kd.int .i64)) 48 w' w.heap.size (fun k_=>some k_≠(u153001 : Value).ownBlock∧k_≠gb144∧k_≠gb145∧k_≠gb146∧k_≠gb152) (.slice Ao44 t149.length co44) t149)∧Aside0 (Kd.R (Kd.int .i32) 21 w' w.heap.size (fun _=>True) u153001 x153001_3)∧Aside0 (w'.heap[gb144]?=some (.cells #[.int .i64 a0_0,.int .i64 a0_1,(.slice A0_2 l0_2.length c0_2)] 50 (0,0)))∧Aside0 (w'.heap[gb145]?=some (.cells #[.int .i64 a1_0,(.slice A1_1 l1_1.length c1_1)] 43 (0,0)))∧Aside0 (w'.heap[gb146]?=some (.cells #[.int .i64 0,(.slice none 0 0)] 43 (0,0)))∧Aside0 (w'.heap[gb152]?=some (.cells #[.int .i64 a0_1,u153001] 43 (0,0)))∧Aside0 (Below w.heap.size w w'))
     case atStart=>exact ⟨(0),(x153001_2),(u153001),zE,H',⟨Nat.le_refl _⟩,⟨zN HO_6⟩,⟨zN HO_6⟩,⟨zR HO_153001⟩,⟨zB BK144⟩,⟨zB BK145⟩,⟨zB BK146⟩,⟨zB BK152⟩,⟨zW HB⟩⟩
     case round=>
      clear H'
      try clear c1
      try clear c2
      try clear p2
      try clear c3
      try clear c4
      try clear c5
      try clear c6
      try clear c8
      try clear c10
      try clear c11
      try clear c14
      try clear c17
      try clear c18
      try clear c21
      try clear c22
      try clear c23
      try clear c25
      try clear c25b0
      try clear c25b1
      try clear c27
      try clear c28
      try clear c30
      try clear c35
      try clear c36
      try clear c37
      try clear c39
      try clear c39b0
      try clear c40
      try clear c41
      try clear c42
      try clear p2
      obtain ⟨x45_3,x153001_3,u153001,rfl,HA,HK3,HO_6,HO_43,HO_153001,BK144,BK145,BK146,BK152,HB⟩:=hrel
      cases gk with
      | zero=>exact absurd HA.out (by simp [matrix_Apply.l1])
      | succ k3=>
       have H:=HA.out;clear HA;simp only [matrix_Apply.l1] at H
       by_cases c45 : x45_3<(t149.length : Int)
       rotate_left
       ·rw [if_neg c45] at H;have c45b0:=decide_eq_false c45;clear c45;have H':=zo H;clear H;have hnb70:=NB144_145.out;have hnc70:=NB145_144.out;have hnb71:=NB144_146.out;have hnc71:=NB146_144.out;have hnb72:=NB144_152.out;have hnc72:=NB152_144.out;obtain ⟨hcz73_0,hfz73_0,hcz73_1,hfz73_1,hcz73_2,hfz73_2⟩:=zn3 BK144
        go_wp2
        go_roundg k3
        case measure=>have:=HJ2.out;have:=HK2.out;have:=HK3.out;omega
        case rel=>exact ⟨(wrap64 (x8_2+a0_0)),(x153001_3),(u153001),zE,H',⟨by have:=HJ2.out;have:=HK2.out;have:=HK3.out;omega⟩,⟨zN HO_6⟩,⟨zR HO_153001⟩,⟨zB BK144⟩,⟨zB BK145⟩,⟨zB BK146⟩,⟨zB BK152⟩,⟨zW HB⟩⟩
       rw [if_pos c45] at H;have c45b0:=decide_eq_true c45;clear c45
       by_cases c46 : 0≤x45_3
       rotate_left
       ·rw [if_neg c46] at H;exact absurd H (by simp)
       rw [if_pos c46] at H;have c46b0:=decide_eq_true c46;clear c46
       by_cases c47 : x45_3<(t149.length : Int)
       rotate_left
       ·rw [if_neg c47] at H;exact absurd H (by simp)
       rw [if_pos c47] at H;have c47b0:=decide_eq_true c47;clear c47
       by_cases c48 : 0≤x8_2
       rotate_left
       ·rw [if_neg c48] at H;exact absurd H (by simp)
       rw [if_pos c48] at H;have c48b0:=eq_true c48;have c48b1:=decide_eq_true c48;clear c48
       by_cases c49 : x8_2≤(wrap64 (x8_2+a0_0))
       rotate_left
       ·rw [if_neg c49] at H;exact absurd H (by simp)
       rw [if_pos c49] at H;have c49b0:=eq_true c49;have c49b1:=decide_eq_true c49
       by_cases c50 : (wrap64 (x8_2+a0_0))≤(l1_1.length : Int)
       rotate_left
       ·rw [if_neg c50] at H;exact absurd H (by simp)
       rw [if_pos c50] at H;have c50b0:=eq_true c50;have c50b1:=decide_eq_true c50;have H':=zo H;clear H;have p153 : 0≤(x45_3 : Int):=zD;have q153 : x45_3<(t149.length : Int):=zD;obtain ⟨ad153,A153_0,c153_0,e153,hx153_0,hl153_0,hi153_0⟩:=at_L2 (Kd.N_reads' HO_43.out).2.2 x45_3 p153 q153
       cases e153
       obtain ⟨ce153,hce153,hMe153,hcc153⟩:=Kd.N_get HO_43.out [] x45_3 p153 (by first|exact q153|exact zD|(have e_:=(Kd.N_reads' HO_43.out).1;omega));obtain ⟨ua153_0,uc153_0,rfl,ul153_0,ge153_0⟩:=Kd.FK_slice_open hMe153;have hv153_0:=hcc153 0 _ rfl;rw [Nat.add_zero,show ((Kd.slice 3 (Kd.int .i64))).sz=1 from rfl,Nat.mul_one] at hv153_0;replace hv153_0:=Option.some.inj (hv153_0.symm.trans hx153_0);injection hv153_0 with hva_ hvn_ hvc_;rw [hva_] at ge153_0;rw [hvc_] at ul153_0;have HL153_0:=zo (show Kd.V (Kd.int .i64) 3 _ w.heap.size _ _ (rd_L2 t149 x45_3) from Kd.V_mk ul153_0 ge153_0);clear hva_ hvn_ hvc_ ge153_0 ul153_0;clear hcc153 hce153;have HR153_0:=zo hi153_0;have HC153_0:=zo hl153_0;clear hi153_0 hl153_0;replace p153:=eq_true p153;replace q153:=eq_true q153;have hnb51:=NB145_144.out;have hnc51:=NB144_145.out;have hnb52:=NB145_146.out;have hnc52:=NB146_145.out;have hnb53:=NB145_152.out;have hnc53:=NB152_145.out;obtain ⟨hcz54_0,hfz54_0,hcz54_1,hfz54_1⟩:=zn2 BK145;have hnb55:=NB144_146.out;have hnc55:=NB146_144.out;have hnb56:=NB144_152.out;have hnc56:=NB152_144.out;obtain ⟨hcz57_0,hfz57_0,hcz57_1,hfz57_1,hcz57_2,hfz57_2⟩:=zn3 BK144;obtain ⟨i058,hi058,_,hsz58,_⟩:=info_parts info21;obtain ⟨A58,hcut58,hA58,hC58⟩:=print_mid_of (P:=Try.prog) (Value.int .i32) 0 41 21 .i64 .i64 Try.underlying41 hi058 hsz58 A1_1 c1_1 l1_1 x8_2 (wrap64 (x8_2+a0_0)) (zD) (by first|omega|exact zD) (zD) HC1_1.out;have HR154:=zo (Kd.C_of_reads (h1:=fun _=>rfl) (hA58 _ (Kd.reads_of_C HR1_1.out)));have HC154:=zo hC58;clear hA58 hC58 hi058 hsz58;have HSL58:=zo (show ((l1_1.take ((wrap64 (x8_2+a0_0)) : Int).toNat).drop (x8_2 : Int).toNat).length=((wrap64 (x8_2+a0_0)).toNat - x8_2.toNat) from (by rw [List.length_drop,List.length_take];have h_ : ((wrap64 (x8_2+a0_0)) : Int)≤(l1_1.length : Int):=zD;omega))
       go_wp2
       go_loopg [11,58] k3 (fun kq v11 v58 w'=>∃ (x11_4 : Int) (x58_4 : Int),v11 = .int .i64 x11_4∧v58 = .int .i64 x58_4∧Aside0 (matrix_Apply.l2 kq t149 x8_2 (rd_L2 t149 x45_3) x11_4 t149 (t149.length : Int) x45_3 ((l1_1.take ((wrap64 (x8_2+a0_0)) : Int).toNat).drop (x8_2 : Int).toNat) (((l1_1.take ((wrap64 (x8_2+a0_0)) : Int).toNat).drop (x8_2 : Int).toNat).length : Int) x58_4 a0_0 a0_1 l0_2 a1_0 l1_1 a0_1 x153001_3=some (r1,r2,r3))∧Aside0 (kq≤k3)∧Aside0 (Kd.N (Kd.slice 3 (Kd.int .i64)) 48 w' w.heap.size (fun k_=>some k_≠(u153001 : Value).ownBlock∧k_≠gb144∧k_≠gb145∧k_≠gb146∧k_≠gb152) (.slice (some ad153) t149.length co44) t149)∧Aside0 (Kd.N (Kd.slice 3 (Kd.int .i64)) 48 w' w.heap.size (fun k_=>some k_≠(u153001 : Value).ownBlock∧k_≠gb144∧k_≠gb145∧k_≠gb146∧k_≠gb152) (.slice (some ad153) t149.length co44) t149)∧Aside0 (Kd.R (Kd.int .i32) 21 w' w.heap.size (fun _=>True) u153001 x153001_3)∧Aside0 (w'.heap[gb144]?=some (.cells #[.int .i64 a0_0,.int .i64 a0_1,(.slice A0_2 l0_2.length c0_2)] 50 (0,0)))∧Aside0 (w'.heap[gb145]?=some (.cells #[.int .i64 a1_0,(.slice A1_1 l1_1.length c1_1)] 43 (0,0)))∧Aside0 (w'.heap[gb146]?=some (.cells #[.int .i64 0,(.slice none 0 0)] 43 (0,0)))∧Aside0 (w'.heap[gb152]?=some (.cells #[.int .i64 a0_1,u153001] 43 (0,0)))∧Aside0 (Kd.C (Kd.int .i64) w' A153_0 (rd_L2 t149 x45_3).length (rd_L2 t149 x45_3))∧Aside0 (Below w.heap.size w w'))
       case atStart=>exact ⟨(0),(0),zE,zE,H',⟨Nat.le_refl _⟩,⟨zN HO_6⟩,⟨zN HO_43⟩,⟨zR HO_153001⟩,⟨zB BK144⟩,⟨zB BK145⟩,⟨zB BK146⟩,⟨zB BK152⟩,⟨zC HR153_0⟩,⟨zW HB⟩⟩
       case round=>
        clear H'
        try clear c1
        try clear p1
        try clear q1
        try clear hx1
        try clear c2
        try clear p2
        try clear c3
        try clear c4
        try clear c5
        try clear c6
        try clear p6
        try clear c8
        try clear c10
        try clear c11
        try clear c14
        try clear c15
        try clear p15
        try clear q15
        try clear hx15
        try clear c17
        try clear c18
        try clear c21
        try clear c22
        try clear c23
        try clear c25
        try clear c25b0
        try clear c25b1
        try clear c27
        try clear c28
        try clear c30
        try clear c35
        try clear c36
        try clear c37
        try clear c39
        try clear c39b0
        try clear c40
        try clear c41
        try clear c42
        try clear c45
        try clear c45b0
        try clear c46
        try clear c46b0
        try clear c47
        try clear c47b0
        try clear c48
        try clear c48b0
        try clear c48b1
        try clear c49
        try clear c49b0
        try clear c49b1
        try clear c50
        try clear c50b0
        try clear c50b1
        try clear c51
        try clear c52
        try clear c53
        try clear c55
        try clear c56
        try clear hx153_0
        try clear p153
        try clear p2
        try clear q153
        obtain ⟨x11_4,x58_4,rfl,rfl,HA,HK4,HO_6,HO_43,HO_153001,BK144,BK145,BK146,BK152,HR153_0,HB⟩:=hrel
        cases gk with
        | zero=>exact absurd HA.out (by simp [matrix_Apply.l2])
        | succ k4=>
         have H:=HA.out;clear HA;simp only [matrix_Apply.l2] at H
         by_cases c59 : x58_4<(((l1_1.take ((wrap64 (x8_2+a0_0)) : Int).toNat).drop (x8_2 : Int).toNat).length : Int)
         ·rw [if_pos c59] at H;have c59b0 : decide (x58_4<(((l1_1.take ((wrap64 (x8_2+a0_0)) : Int).toNat).drop (x8_2 : Int).toNat).length : Int))=true:=decide_eq_true c59;(try (have c59b1 : decide (x58_4<((((wrap64 (x8_2+a0_0)).toNat - x8_2.toNat) : Nat) : Int))=true:=by rw [← show ((l1_1.take ((wrap64 (x8_2+a0_0)) : Int).toNat).drop (x8_2 : Int).toNat).length=((wrap64 (x8_2+a0_0)).toNat - x8_2.toNat) from HSL58.out];exact decide_eq_true c59));clear c59
          by_cases c60 : 0≤x58_4
          rotate_left
          ·rw [if_neg c60] at H;exact absurd H (by simp)
          rw [if_pos c60] at H;have c60b0:=decide_eq_true c60;clear c60
          by_cases c61 : x58_4<(((l1_1.take ((wrap64 (x8_2+a0_0)) : Int).toNat).drop (x8_2 : Int).toNat).length : Int)
          rotate_left
          ·rw [if_neg c61] at H;exact absurd H (by simp)
          rw [if_pos c61] at H;have c61b0 : decide (x58_4<(((l1_1.take ((wrap64 (x8_2+a0_0)) : Int).toNat).drop (x8_2 : Int).toNat).length : Int))=true:=decide_eq_true c61;(try (have c61b1 : decide (x58_4<((((wrap64 (x8_2+a0_0)).toNat - x8_2.toNat) : Nat) : Int))=true:=by rw [← show ((l1_1.take ((wrap64 (x8_2+a0_0)) : Int).toNat).drop (x8_2 : Int).toNat).length=((wrap64 (x8_2+a0_0)).toNat - x8_2.toNat) from HSL58.out];exact decide_eq_true c61));clear c61
          by_cases c62 : x58_4<((rd_L2 t149 x45_3).length : Int)
          rotate_left
          ·rw [if_neg c62] at H;exact absurd H (by simp)
          rw [if_pos c62] at H;have c62b0:=decide_eq_true c62;clear c62;have H':=zo H;clear H;have p155 : 0≤(x58_4 : Int):=zD;have q155 : x58_4<(((l1_1.take ((wrap64 (x8_2+a0_0)) : Int).toNat).drop (x8_2 : Int).toNat).length : Int):=zD;(try have qh155 : ((x58_4 : Int)<((((wrap64 (x8_2+a0_0)).toNat - x8_2.toNat) : Nat) : Int))=True:=eq_true (by rw [← show ((l1_1.take ((wrap64 (x8_2+a0_0)) : Int).toNat).drop (x8_2 : Int).toNat).length=((wrap64 (x8_2+a0_0)).toNat - x8_2.toNat) from HSL58.out];exact q155));obtain ⟨ad155,e155,hx155_0⟩:=Kd.at_int HR154.out x58_4 p155 q155
          cases e155
          (try (replace hx155_0:=(HB.out.cell (World.block_lt_of_cell? w _ hx155_0)).trans hx155_0));replace p155:=eq_true p155;replace q155:=eq_true q155;have p156 : 0≤(x58_4 : Int):=zD;have q156 : x58_4<((rd_L2 t149 x45_3).length : Int):=zD;obtain ⟨ad156,e156,hx156_0⟩:=Kd.at_int HR153_0.out x58_4 p156 q156
          cases e156
          (try (replace hx156_0:=(HB.out.cell (World.block_lt_of_cell? w _ hx156_0)).trans hx156_0));replace p156:=eq_true p156;replace q156:=eq_true q156
          go_wp2
          go_roundg k4
          case measure=>have:=HJ2.out;have:=HK2.out;have:=HK3.out;have:=HK4.out;omega
          case rel=>exact ⟨(wrap64 (x11_4+(wrap64 ((rd (rd_L2 t149 x45_3) x58_4)*(wrap64 (rd ((l1_1.take ((wrap64 (x8_2+a0_0)) : Int).toNat).drop (x8_2 : Int).toNat) x58_4)))))),(wrap64 (x58_4+1)),zE,zE,H',⟨by have:=HJ2.out;have:=HK2.out;have:=HK3.out;have:=HK4.out;omega⟩,⟨zN HO_6⟩,⟨zN HO_43⟩,⟨zR HO_153001⟩,⟨zB BK144⟩,⟨zB BK145⟩,⟨zB BK146⟩,⟨zB BK152⟩,⟨zC HR153_0⟩,⟨zW HB⟩⟩
         rw [if_neg c59] at H;have c59b0 : decide (x58_4<(((l1_1.take ((wrap64 (x8_2+a0_0)) : Int).toNat).drop (x8_2 : Int).toNat).length : Int))=false:=decide_eq_false c59;(try (have c59b1 : decide (x58_4<((((wrap64 (x8_2+a0_0)).toNat - x8_2.toNat) : Nat) : Int))=false:=by rw [← show ((l1_1.take ((wrap64 (x8_2+a0_0)) : Int).toNat).drop (x8_2 : Int).toNat).length=((wrap64 (x8_2+a0_0)).toNat - x8_2.toNat) from HSL58.out];exact decide_eq_false c59));clear c59;replace H:=Option.bind_eq_some_iff.mp H;obtain ⟨t157,A630,H⟩:=H
         try dsimp only at H
         have A63:=zo A630;clear A630
         by_cases c64 : x153001_3.length<35184372088832
         rotate_left
         ·rw [if_neg c64] at H;exact absurd H (by simp)
         rw [if_pos c64] at H;have LMc64:=zo c64;clear c64;obtain ⟨y158,hy158⟩ : ∃ y_ : List Int,y_=(x153001_3 ++ [t157]):=⟨_,rfl⟩;replace H : (matrix_Apply.l1 k4 t149 x8_2 t149 (t149.length : Int) (wrap64 (x45_3+1)) a0_0 a0_1 l0_2 a1_0 l1_1 a0_1 y158)=some (r1,r2,r3):=by first|(rw [hy158];with_reducible exact H)|(have H2_:=(Option.bind_some _ _).symm.trans H;rw [hy158];with_reducible exact H2_)|(have H2_:=(Option.bind_some _ _).symm.trans H;with_reducible exact H2_)|with_reducible exact H|(rw [hy158];exact H)|exact H
         have Ny158:=zo hy158;clear hy158;have H':=zo H;clear H
         try go_wp2
         have n0_:=zo (Kd.N_drew HO_6.out);have n1_:=zo (Kd.N_drew HO_43.out);have n2_:=zo (Kd.R_drew HO_153001.out);have n3_:=zo (blk_drew BK144.out);have n4_:=zo (blk_drew BK145.out);have n5_:=zo (blk_drew BK146.out);have n6_:=zo (blk_drew BK152.out);have n7_:=zo (Kd.C_drew HR153_0.out);have n8_:=zo (below_drew1 HB.out);clear HO_6;clear HO_43;clear HO_153001;clear BK144;clear BK145;clear BK146;clear BK152;clear HR153_0;clear HB;have HO_6:=n0_;have HO_43:=n1_;have HO_153001:=n2_;have BK144:=n3_;have BK145:=n4_;have BK146:=n5_;have BK152:=n6_;have HR153_0:=n7_;have HB:=n8_;clear n0_ n1_ n2_ n3_ n4_ n5_ n6_ n7_ n8_;refine start_ (n:=10) (S:=fun w'=>w'.cell? ⟨gb152,0,none⟩=some (.int .i64 a0_1)∧w'.cell? ⟨gb152,1,none⟩=some (u153001)) (ds:=[9]) #[false,false,false,false,false,false,false,false,false,false] zk rfl rfl ⟨(blk_cell BK152.out 0).trans rfl,(blk_cell BK152.out 1).trans rfl⟩ (fun hHeld=>?_);refine with_tabW matrix_Apply.tab19 matrix_Apply.bits19 (fun HT_ HW_=>?_);generalize wr.drew=w65 at HO_6 HO_43 HO_153001 BK144 BK145 BK146 BK152 HR153_0 HB hHeld ⊢;refine pure_ (i:=0) (N:=some 73) (v:=?_) (a':=?_) #[true,false,false,false,false,false,false,false,false,false] rfl rfl (any_of HT_.out zk) (fun _ _ _ h=>h) (Or.inl ⟨by rfl,?_⟩) ?_ ?_;rotate_left
         ·intro w'
          go_simp
          with_reducible rfl
         rotate_left
         ·simp only [Act.put,List.setIfInBounds_toArray,List.set_cons_zero,List.set_cons_succ,i64_w,i32_w];rfl
         refine pure_ (i:=2) (N:=some 75) (v:=?_) (a':=?_) #[true,false,true,false,false,false,false,false,false,false] rfl rfl (any_of HT_.out zk) (fun _ _ _ h=>h) (Or.inl ⟨by rfl,?_⟩) ?_ ?_;rotate_left
         ·intro w'
          go_simp
          with_reducible rfl
         rotate_left
         ·simp only [Act.put,List.setIfInBounds_toArray,List.set_cons_zero,List.set_cons_succ,i64_w,i32_w];rfl
         refine pure_ (i:=3) (N:=some 76) (v:=?_) (a':=?_) #[true,false,true,true,false,false,false,false,false,false] rfl rfl (any_of HT_.out zk) (fun _ _ _ h=>h) (Or.inl ⟨by rfl,?_⟩) ?_ ?_;rotate_left
         ·intro w'
          go_simp
          with_reducible rfl
         rotate_left
         ·simp only [Act.put,List.setIfInBounds_toArray,List.set_cons_zero,List.set_cons_succ,i64_w,i32_w];rfl
         refine pure_ (i:=4) (N:=some 77) (v:=?_) (a':=?_) #[true,false,true,true,true,false,false,false,false,false] rfl rfl (any_of HT_.out zk) (fun _ _ _ h=>h) (Or.inl ⟨by rfl,?_⟩) ?_ ?_;rotate_left
         ·intro w'
          go_simp
          with_reducible rfl
         rotate_left
         ·simp only [Act.put,List.setIfInBounds_toArray,List.set_cons_zero,List.set_cons_succ,i64_w,i32_w];rfl
         refine take_ (i:=1) (N:=some 74) (v:=?_) (a':=?_) #[true,true,true,true,true,false,false,false,false,false] rfl rfl (take_ofW HT_.out HW_.out zk) (fun _ _ _ h=>h) (Or.inl ⟨by rfl,?_⟩) hHeld ?_ ?_;rotate_left
         ·rintro w' ⟨s0,s1⟩
          go_simp
          with_reducible rfl
         rotate_left
         ·simp only [Act.put,List.setIfInBounds_toArray,List.set_cons_zero,List.set_cons_succ,i64_w,i32_w];rfl
         refine one_ (i:=5) (N:=some 78) #[true,true,true,true,true,true,false,false,false,false] rfl rfl (one_of HT_.out zk) (by decide) (fun K hK=>?_);refine goes_ Try.func59 zk rfl #[.int .i64 ((wrap64 (x11_4+16384)) / 32768)] (by rfl) rfl rfl zA ?_
         with_reducible refine (sample_Sat.calls ((wrap64 (x11_4+16384)) / 32768) t157 _ A63.out).mono ?_
         rintro e w66 ⟨rfl,hb⟩;refine ⟨_,rfl,?_⟩;have n0_:=zo (Kd.N_below (zN HO_6) hb);have n1_:=zo (Kd.N_below (zN HO_43) hb);have n2_:=zo (Kd.R_below (zR HO_153001) hb);have n3_:=zo (blk_below (zB BK144) hb);have n4_:=zo (blk_below (zB BK145) hb);have n5_:=zo (blk_below (zB BK146) hb);have n6_:=zo (blk_below (zB BK152) hb);have n7_:=zo (Kd.C_below (zC HR153_0) hb);have n8_:=zo (below_step (zW HB) hb);clear HO_6;clear HO_43;clear HO_153001;clear BK144;clear BK145;clear BK146;clear BK152;clear HR153_0;clear HB;have HO_6:=n0_;have HO_43:=n1_;have HO_153001:=n2_;have BK144:=n3_;have BK145:=n4_;have BK146:=n5_;have BK152:=n6_;have HR153_0:=n7_;have HB:=n8_;clear n0_ n1_ n2_ n3_ n4_ n5_ n6_ n7_ n8_;(try clear hb);(try clear hb2);(try clear hk);(try clear hi);(try clear hgw);refine hK.out _ _ ⟨(blk_cell BK152.out 0).trans rfl,(blk_cell BK152.out 1).trans rfl⟩ (fun hHeld=>?_);clear hK K;refine norm_ (a':=?_) ?_ ?_;rotate_left
         ·show Act.put _ (some 78) _=_
          simp only [Act.put,List.setIfInBounds_toArray,List.set_cons_zero,List.set_cons_succ,i64_w,i32_w];rfl
         refine one_ (i:=6) (N:=some 79) #[true,true,true,true,true,true,true,false,false,false] rfl rfl (one_of HT_.out zk) (by decide) (fun K hK=>?_);refine value_ (w1:=?_) (v:=?_) (by rfl) rfl ?_ ?_;rotate_left 2
         ·go_simp
          constructor
          ·rfl
          ·rfl
         refine hK.out _ _ ⟨(blk_cell (blk_alloc BK152.out _) 0).trans rfl,(blk_cell (blk_alloc BK152.out _) 1).trans rfl⟩ (fun hHeld=>?_);clear hK K;refine norm_ (a':=?_) ?_ ?_;rotate_left
         ·show Act.put _ (some 79) _=_
          simp only [Act.put,List.setIfInBounds_toArray,List.set_cons_zero,List.set_cons_succ,i64_w,i32_w];rfl
         refine one_ (i:=7) (N:=some 80) #[true,true,true,true,true,true,true,true,false,false] rfl rfl (one_of HT_.out zk) (by decide) (fun K hK=>?_);refine Kd.R_append_step (Kd.int .i32) (w0:=w) w.heap.size (by rfl) (.tmp 74) (.tmp 79) 41 21 (.int .i32 0) 4 rfl Try.underlying41 info21 rfl (by decide) (by omega) u153001 x153001_3 t157 [.int .i32 t157] (fun _=>True) (fun _=>False) rfl rfl ?aP (fun _ hk=>hk.elim) ?aF ?aO ?aB ?aS ?aL ?_;(case aP=>exact rfl);(case aB=>exact (zW HB));(case aF=>exact (fun _ _=>trivial));(case aO=>exact (zR HO_153001));(case aS=>exact (below_size (zW HB)));(case aL=>have:=LMc64.out;omega);intro v159 w67 ho hb hg hat;rw [← Ny158.out] at ho;have n0_:=zo (Kd.N_afterv (ok:=(fun k_=>k_≠gb144∧k_≠gb145∧k_≠gb146∧k_≠gb152)) (by (with_reducible repeat (first|apply Kd.N_alloc|apply Kd.N_drewN|apply Kd.N_drew));exact Kd.N_mono HO_6.out (fun _ hk=>⟨⟨hk.2.1,⟨hk.2.2.1,⟨hk.2.2.2.1,hk.2.2.2.2⟩⟩⟩,hk.1⟩)) hg hat);have n1_:=zo (Kd.N_afterv (ok:=(fun k_=>k_≠gb144∧k_≠gb145∧k_≠gb146∧k_≠gb152)) (by (with_reducible repeat (first|apply Kd.N_alloc|apply Kd.N_drewN|apply Kd.N_drew));exact Kd.N_mono HO_43.out (fun _ hk=>⟨⟨hk.2.1,⟨hk.2.2.1,⟨hk.2.2.2.1,hk.2.2.2.2⟩⟩⟩,hk.1⟩)) hg hat);have n2_:=zo (blk_grown (zB BK144) hg (Kd.R_ne HO_153001.out BK144.out (by decide)));have n3_:=zo (blk_grown (zB BK145) hg (Kd.R_ne HO_153001.out BK145.out (by decide)));have n4_:=zo (blk_grown (zB BK146) hg (Kd.R_ne HO_153001.out BK146.out (by decide)));have n5_:=zo (blk_grown (zB BK152) hg (Kd.R_ne HO_153001.out BK152.out (by decide)));have n6_:=zo hb;have n7_:=zo ho;clear HO_6;clear HO_43;clear BK144;clear BK145;clear BK146;clear BK152;clear HB;clear HO_153001;have HO_6:=n0_;have HO_43:=n1_;have BK144:=n2_;have BK145:=n3_;have BK146:=n4_;have BK152:=n5_;have HB:=n6_;have HO160:=n7_;clear n0_ n1_ n2_ n3_ n4_ n5_ n6_ n7_;clear ho hb hg hat;obtain ⟨Ao68,co68,eo68⟩:=Kd.R_slice HO160.out;(first|subst eo68|(injection eo68 with f1_ f2_ f3_;have f4_:=f1_.symm;have f5_:=f3_.symm;clear f1_ f2_ f3_;subst f4_;subst f5_));refine hK.out _ _ ⟨(blk_cell BK152.out 0).trans rfl,(blk_cell BK152.out 1).trans rfl⟩ (fun hHeld=>?_);clear hK K;refine norm_ (a':=?_) ?_ ?_;rotate_left
         ·show Act.put _ (some 80) _=_
          simp only [Act.put,List.setIfInBounds_toArray,List.set_cons_zero,List.set_cons_succ,i64_w,i32_w];rfl
         refine pure_ (i:=8) (N:=some 81) (v:=?_) (a':=?_) #[true,true,true,true,true,true,true,true,true,false] rfl rfl (any_of HT_.out zk) (fun _ _ _ h=>h) (Or.inl ⟨by rfl,?_⟩) ?_ ?_;rotate_left
         ·intro w'
          go_simp
          with_reducible rfl
         rotate_left
         ·simp only [Act.put,List.setIfInBounds_toArray,List.set_cons_zero,List.set_cons_succ,i64_w,i32_w];rfl
         refine last_ (i:=9) (N:=none) #[true,true,true,true,true,true,true,true,true,true] rfl rfl (one_of HT_.out zk) (by decide) (fun K hK=>?_);have hs69:=zc BK152 1 (u153001) rfl;have hfs69:=blk_frozen BK152.out 1;have hns69_0:=NB144_152.out;have hns69_1:=NB145_152.out;have hns69_2:=NB146_152.out;have hms69_0:=NB152_144.out;have hms69_1:=NB152_145.out;have hms69_2:=NB152_146.out;refine skip_ (w1:=?_) (by rfl) rfl ?_ ?_;rotate_left
         ·go_simp
          rfl
         refine hK.out _ _ ?_;clear hK K;refine done_ (done_of HT_.out zk) ?_
         try go_wp2
         go_roundg k4
         case measure=>have:=HJ2.out;have:=HK2.out;have:=HK3.out;have:=HK4.out;omega
         case rel=>exact ⟨(wrap64 (x45_3+1)),(y158),(.slice Ao68 y158.length co68),zE,H',⟨by have:=HJ2.out;have:=HK2.out;have:=HK3.out;have:=HK4.out;omega⟩,⟨by (with_reducible repeat (first|apply Kd.N_alloc|apply Kd.N_drewN|apply Kd.N_drew));exact Kd.N_mono (Kd.N_far (p:=⟨gb152,1,none⟩) (Kd.N_mono HO_6.out (fun k_ hk=>(⟨hk,hk.1.2.2.2⟩ : _∧k_≠gb152))) (fun _ hk=>hk.2) (.slice Ao68 y158.length co68)) (fun _ hk=>⟨hk.1.2,⟨hk.1.1.1,⟨hk.1.1.2.1,⟨hk.1.1.2.2.1,hk.1.1.2.2.2⟩⟩⟩⟩)⟩,⟨by (with_reducible repeat (first|apply Kd.N_alloc|apply Kd.N_drewN|apply Kd.N_drew));exact Kd.N_mono (Kd.N_far (p:=⟨gb152,1,none⟩) (Kd.N_mono HO_43.out (fun k_ hk=>(⟨hk,hk.1.2.2.2⟩ : _∧k_≠gb152))) (fun _ hk=>hk.2) (.slice Ao68 y158.length co68)) (fun _ hk=>⟨hk.1.2,⟨hk.1.1.1,⟨hk.1.1.2.1,⟨hk.1.1.2.2.1,hk.1.1.2.2.2⟩⟩⟩⟩)⟩,⟨by (with_reducible repeat (first|apply Kd.R_alloc|apply Kd.R_drewN|apply Kd.R_drew));exact Kd.R_mono (Kd.R_far (p:=⟨gb152,1,none⟩) (Kd.R_types HO160.out BK152.out (by decide)) (fun _ hk=>hk.2) (.slice Ao68 y158.length co68)) (fun _ hk=>trivial)⟩,⟨zB BK144⟩,⟨zB BK145⟩,⟨zB BK146⟩,⟨zB BK152⟩,⟨zW HB⟩⟩

end Go.Proofs.Ytcnmemcclhahnaa.QT
