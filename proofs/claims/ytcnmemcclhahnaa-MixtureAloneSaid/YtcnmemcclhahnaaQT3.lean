-- Written by a program of this session, out of the seat's translation; checked by the kernel alone.
import Derived.Test.YtcnmemcclhahnaaQT0
import Derived.Test.YtcnmemcclhahnaaQT2
namespace Go.Proofs.Ytcnmemcclhahnaa.QT
open Go.RowKit Go.Proofs.YtcnmemcclhahnaaW.PrintWords Go.Proofs.YtcnmemcclhahnaaW.PrintLast Go.Proofs.YtcnmemcclhahnaaW.PrintMore
attribute [local go_sem] max2_int min2_int max_two min_two max_three min_three max_four min_four   -- for this text's walks alone
set_option linter.unusedVariables false
set_option linter.unusedSimpArgs false

mutual
def gain_Run.j0 : Nat→Bool→Int→List Int→Int→Int→Int→Int→Option (Int×List Int×Int×Int×Int×Int×Int)
 | 0,_,_,_,_,_,_,_=>none
 | k+1,x23,x114000,x114001,x117000,x117001,x117002,x117003=>if x23=true then (some (0,([] : List Int),0,0,0,0,1)) else (if 0≤(x114001.length : Int) then (if ((x114001.length : Int) : Int).toNat≤70368744177664 then (if x114000=0 then (none) else (gain_Run.l0 k (wrap64 ((x114001.length : Int) / x114000)) (wrap64 ((x114001.length : Int) / x114000)) 0 x114000 x114001 x117000 x117001 x117002 x117003 x114000 (([] : List Int)))) else (none)) else (none))
def gain_Run.l0 : Nat→Int→Int→Int→Int→List Int→Int→Int→Int→Int→Int→List Int→Option (Int×List Int×Int×Int×Int×Int×Int)
 | 0,_,_,_,_,_,_,_,_,_,_,_=>none
 | k+1,x9,x39,x40,x114000,x114001,x117000,x117001,x117002,x117003,x123000,x123001=>if x40<x39 then ((gain_slope_gain.f x117000 x117001 x117002 x117003 x40).bind fun t123=>(if 0≤(wrap64 (x40*x114000)) then (if (wrap64 (x40*x114000))≤(wrap64 ((wrap64 (x40+1))*x114000)) then (if (wrap64 ((wrap64 (x40+1))*x114000))≤(x114001.length : Int) then (gain_Run.l1 k x9 t123 x39 x40 ((x114001.take ((wrap64 ((wrap64 (x40+1))*x114000)) : Int).toNat).drop ((wrap64 (x40*x114000)) : Int).toNat) (((x114001.take ((wrap64 ((wrap64 (x40+1))*x114000)) : Int).toNat).drop ((wrap64 (x40*x114000)) : Int).toNat).length : Int) 0 x114000 x114001 x117000 x117001 x117002 x117003 x123000 x123001) else (none)) else (none)) else (none))) else (some (x123000,x123001,x117000,x117001,x117002,mn x117002 (wrap64 (x117003+x9)),0))
def gain_Run.l1 : Nat→Int→Int→Int→Int→List Int→Int→Int→Int→List Int→Int→Int→Int→Int→Int→List Int→Option (Int×List Int×Int×Int×Int×Int×Int)
 | 0,_,_,_,_,_,_,_,_,_,_,_,_,_,_,_=>none
 | k+1,x9,x11,x39,x40,x57,x58,x59,x114000,x114001,x117000,x117001,x117002,x117003,x123000,x123001=>if x59<x58 then (if 0≤x59 then (if x59<(x57.length : Int) then ((gain_Apply.f (rd x57 x59) x11).bind fun t126=>(if x123001.length<35184372088832 then (gain_Run.l1 k x9 x11 x39 x40 x57 x58 (wrap64 (x59+1)) x114000 x114001 x117000 x117001 x117002 x117003 x123000 (x123001 ++ [t126])) else (none))) else (none)) else (none)) else (gain_Run.l0 k x9 x39 (wrap64 (x40+1)) x114000 x114001 x117000 x117001 x117002 x117003 x123000 x123001)
end
def gain_Run.f (k : Nat) (a0_0 : Int) (a0_1 : Int) (a0_2 : Int) (a0_3 : Int) (a1_0 : Int) (l1_1 : List Int) : Option (Int×List Int×Int×Int×Int×Int×Int):=(gain_slope_valid.f a0_0 a0_1 a0_2 a0_3).bind fun t117=>(if t117=true then ((sample_Valid.f k a1_0 l1_1).bind fun t118=>(gain_Run.j0 k (!t118) a1_0 l1_1 a0_0 a0_1 a0_2 a0_3)) else (gain_Run.j0 k true a1_0 l1_1 a0_0 a0_1 a0_2 a0_3))
theorem gain_Run.mono_l : ∀ k,(∀ y0 y1 y2 y3 y4 y5 y6,LeO (gain_Run.j0 k y0 y1 y2 y3 y4 y5 y6) (gain_Run.j0 (k+1) y0 y1 y2 y3 y4 y5 y6))∧(∀ y0 y1 y2 y3 y4 y5 y6 y7 y8 y9 y10,LeO (gain_Run.l0 k y0 y1 y2 y3 y4 y5 y6 y7 y8 y9 y10) (gain_Run.l0 (k+1) y0 y1 y2 y3 y4 y5 y6 y7 y8 y9 y10))∧(∀ y0 y1 y2 y3 y4 y5 y6 y7 y8 y9 y10 y11 y12 y13 y14,LeO (gain_Run.l1 k y0 y1 y2 y3 y4 y5 y6 y7 y8 y9 y10 y11 y12 y13 y14) (gain_Run.l1 (k+1) y0 y1 y2 y3 y4 y5 y6 y7 y8 y9 y10 y11 y12 y13 y14))
 | 0=>⟨fun _ _ _ _ _ _ _ r h=>by simp [gain_Run.j0] at h,fun _ _ _ _ _ _ _ _ _ _ _ r h=>by simp [gain_Run.l0] at h,fun _ _ _ _ _ _ _ _ _ _ _ _ _ _ _ r h=>by simp [gain_Run.l1] at h⟩
 | k+1=>by
  obtain ⟨ih0,ih1,ih2⟩:=gain_Run.mono_l k;refine ⟨?_,?_,?_⟩
  ·intro y0 y1 y2 y3 y4 y5 y6;unfold gain_Run.j0
   repeat' first
   | (with_reducible exact ih0 _ _ _ _ _ _ _)
   | (with_reducible exact ih1 _ _ _ _ _ _ _ _ _ _ _)
   | (with_reducible exact ih2 _ _ _ _ _ _ _ _ _ _ _ _ _ _ _)
   | (with_reducible exact sample_Valid.mono _ _ _)
   | (with_reducible exact LeO.refl _)
   | (with_reducible exact LeO.none _)
   | (with_reducible refine LeO.ite ?_ ?_)
   | (with_reducible refine LeO.bind ?_ (fun _=>?_))
   | exact ih0 _ _ _ _ _ _ _
   | exact ih1 _ _ _ _ _ _ _ _ _ _ _
   | exact ih2 _ _ _ _ _ _ _ _ _ _ _ _ _ _ _
   | exact sample_Valid.mono _ _ _
   | exact LeO.none _
   | refine LeO.ite ?_ ?_
   | refine LeO.bind ?_ (fun _=>?_)
  ·intro y0 y1 y2 y3 y4 y5 y6 y7 y8 y9 y10;unfold gain_Run.l0
   repeat' first
   | (with_reducible exact ih0 _ _ _ _ _ _ _)
   | (with_reducible exact ih1 _ _ _ _ _ _ _ _ _ _ _)
   | (with_reducible exact ih2 _ _ _ _ _ _ _ _ _ _ _ _ _ _ _)
   | (with_reducible exact sample_Valid.mono _ _ _)
   | (with_reducible exact LeO.refl _)
   | (with_reducible exact LeO.none _)
   | (with_reducible refine LeO.ite ?_ ?_)
   | (with_reducible refine LeO.bind ?_ (fun _=>?_))
   | exact ih0 _ _ _ _ _ _ _
   | exact ih1 _ _ _ _ _ _ _ _ _ _ _
   | exact ih2 _ _ _ _ _ _ _ _ _ _ _ _ _ _ _
   | exact sample_Valid.mono _ _ _
   | exact LeO.none _
   | refine LeO.ite ?_ ?_
   | refine LeO.bind ?_ (fun _=>?_)
  ·intro y0 y1 y2 y3 y4 y5 y6 y7 y8 y9 y10 y11 y12 y13 y14;unfold gain_Run.l1
   repeat' first
   | (with_reducible exact ih0 _ _ _ _ _ _ _)
   | (with_reducible exact ih1 _ _ _ _ _ _ _ _ _ _ _)
   | (with_reducible exact ih2 _ _ _ _ _ _ _ _ _ _ _ _ _ _ _)
   | (with_reducible exact sample_Valid.mono _ _ _)
   | (with_reducible exact LeO.refl _)
   | (with_reducible exact LeO.none _)
   | (with_reducible refine LeO.ite ?_ ?_)
   | (with_reducible refine LeO.bind ?_ (fun _=>?_))
   | exact ih0 _ _ _ _ _ _ _
   | exact ih1 _ _ _ _ _ _ _ _ _ _ _
   | exact ih2 _ _ _ _ _ _ _ _ _ _ _ _ _ _ _
   | exact sample_Valid.mono _ _ _
   | exact LeO.none _
   | refine LeO.ite ?_ ?_
   | refine LeO.bind ?_ (fun _=>?_)
theorem gain_Run.mono : ∀ a0 a1 a2 a3 a4 a5 k,LeO (gain_Run.f k a0 a1 a2 a3 a4 a5) (gain_Run.f (k+1) a0 a1 a2 a3 a4 a5):=by
 intro a0 a1 a2 a3 a4 a5 k;obtain ⟨ih0,ih1,ih2⟩:=gain_Run.mono_l k;unfold gain_Run.f
 repeat' first
   | (with_reducible exact ih0 _ _ _ _ _ _ _)
   | (with_reducible exact ih1 _ _ _ _ _ _ _ _ _ _ _)
   | (with_reducible exact ih2 _ _ _ _ _ _ _ _ _ _ _ _ _ _ _)
   | (with_reducible exact sample_Valid.mono _ _ _)
   | (with_reducible exact LeO.refl _)
   | (with_reducible exact LeO.none _)
   | (with_reducible refine LeO.ite ?_ ?_)
   | (with_reducible refine LeO.bind ?_ (fun _=>?_))
   | exact ih0 _ _ _ _ _ _ _
   | exact ih1 _ _ _ _ _ _ _ _ _ _ _
   | exact ih2 _ _ _ _ _ _ _ _ _ _ _ _ _ _ _
   | exact sample_Valid.mono _ _ _
   | exact LeO.none _
   | refine LeO.ite ?_ ?_
   | refine LeO.bind ?_ (fun _=>?_)
def gain_Run.T4 : Bool×List (List Nat×List Nat):=(true,[([],[]),([0],[0]),([],[]),([2],[2]),([3],[3]),([4],[4]),([1,5],[1,5]),([],[]),([7,6,0,1,2,3,4,5,6,7],[6,7])])
def gain_Run.B4 : List Nat:=[0,1,0,4,12,28,63,0,255]
theorem gain_Run.tab4 : rtab .any (opsOf Try.f41 4)=gain_Run.T4:=by kernel_rfl
theorem gain_Run.bits4 : waitsOk gain_Run.T4.2 gain_Run.B4=true:=by kernel_rfl
def gain_Run.T13 : Bool×List (List Nat×List Nat):=(true,[([],[]),([0],[0]),([],[]),([],[]),([2,3],[2,3]),([4],[4]),([1,5,4],[1,5]),([0,1,2,3,4,5,6],[]),([7,6,6,0,1,2,3,4,5,6],[6,7])])
def gain_Run.B13 : List Nat:=[0,1,0,0,12,28,63,127,255]
theorem gain_Run.tab13 : rtab .any (opsOf Try.f41 13)=gain_Run.T13:=by kernel_rfl
theorem gain_Run.bits13 : waitsOk gain_Run.T13.2 gain_Run.B13=true:=by kernel_rfl
set_option maxHeartbeats 8000000 in
set_option maxRecDepth 100000 in
theorem gain_Run.calls (k : Nat) (a0_0 : Int) (a0_1 : Int) (a0_2 : Int) (a0_3 : Int) (a1_0 : Int) (A1_1 : Option Addr) (c1_1 : Nat) (l1_1 : List Int) (r1 : Int) (r2 : List Int) (r3 : Int) (r4 : Int) (r5 : Int) (r6 : Int) (r7 : Int) (w : World) (hr1_1 : Kd.C (Kd.int .i32) w A1_1 l1_1.length l1_1) (hc1_1 : l1_1.length≤c1_1) (h : gain_Run.f k a0_0 a0_1 a0_2 a0_3 a1_0 l1_1=some (r1,r2,r3,r4,r5,r6,r7)) :
  Calls Try.prog 41 #[.agg #[.int .i64 a0_0,.int .i64 a0_1,.int .i64 a0_2,.int .i64 a0_3],.agg #[.int .i64 a1_0,.slice A1_1 l1_1.length c1_1]] w fun e w'=>∃ v1_ : Value,e = .returned (.tuple #[.agg #[.int .i64 r1,v1_],.agg #[.int .i64 r3,.int .i64 r4,.int .i64 r5,.int .i64 r6],.int .i64 r7])∧Kd.R (Kd.int .i32) 21 w' w.heap.size (fun _=>True) v1_ r2∧Below w.heap.size w w':=by
 have hu52:=Try.underlying52;have hu43:=Try.underlying43;have hu98:=Try.underlying98;have HR1_1:=zo hr1_1;have HC1_1:=zo hc1_1;clear hr1_1 hc1_1;have HB:=zo (Below.refl w.heap.size w);have H:=h;unfold gain_Run.f at H;clear h;have HC3:=zo H;clear H
 go_enter Try.func41,Try.ntmps41
 go_upto_region 2 with (first|((with_reducible refine gate_dst (N:=2) rfl ?_);refine box_event ?hg (N:=2) ?hd (cs:=#[.int .i64 a0_0,.int .i64 a0_1,.int .i64 a0_2,.int .i64 a0_3]) (t:=52) ?hr ?_;(case hd=>rfl);(case hg=>rfl);(case hr=>first|(go_simp;done)|(go_simp;rfl));intro gb112 hg w4 hbox hb;have BK112:=zo hbox;have GW112:=zo (zS hg HB);have GE112:=zo (zS hg HB);replace HB:=zo (below_step (zW HB) hb);clear hb hbox hg)|((with_reducible refine gate_dst (N:=3) rfl ?_);refine box_event ?hg (N:=3) ?hd (cs:=#[.int .i64 a1_0,.slice A1_1 l1_1.length c1_1]) (t:=43) ?hr ?_;(case hd=>rfl);(case hg=>rfl);(case hr=>first|(go_simp;done)|(go_simp;rfl));intro gb113 hg w5 hbox hb;have BK113:=zo hbox;have GW113:=zo (zS hg HB);have GE113:=zo (zS hg HB);replace HB:=zo (below_step (zW HB) hb);have NB112_113:=zo (zL hg BK112);have NB113_112:=zo (zG hg BK112);replace BK112:=zo (blk_below (zB BK112) hb);clear hb hbox hg)|((with_reducible refine gate_dst (N:=4) rfl ?_);refine box_event ?hg (N:=4) ?hd (cs:=#[.int .i64 0,.slice none 0 0]) (t:=43) ?hr ?_;(case hd=>rfl);(case hg=>rfl);(case hr=>first|(go_simp;done)|(go_simp;rfl));intro gb114 hg w6 hbox hb;have BK114:=zo hbox;have GW114:=zo (zS hg HB);have GE114:=zo (zS hg HB);replace HB:=zo (below_step (zW HB) hb);have NB112_114:=zo (zL hg BK112);have NB114_112:=zo (zG hg BK112);replace BK112:=zo (blk_below (zB BK112) hb);have NB113_114:=zo (zL hg BK113);have NB114_113:=zo (zG hg BK113);replace BK113:=zo (blk_below (zB BK113) hb);clear hb hbox hg)|((with_reducible refine gate_dst (N:=5) rfl ?_);refine box_event ?hg (N:=5) ?hd (cs:=#[.int .i64 0,.int .i64 0,.int .i64 0,.int .i64 0]) (t:=52) ?hr ?_;(case hd=>rfl);(case hg=>rfl);(case hr=>first|(go_simp;done)|(go_simp;rfl));intro gb115 hg w7 hbox hb;have BK115:=zo hbox;have GW115:=zo (zS hg HB);have GE115:=zo (zS hg HB);replace HB:=zo (below_step (zW HB) hb);have NB112_115:=zo (zL hg BK112);have NB115_112:=zo (zG hg BK112);replace BK112:=zo (blk_below (zB BK112) hb);have NB113_115:=zo (zL hg BK113);have NB115_113:=zo (zG hg BK113);replace BK113:=zo (blk_below (zB BK113) hb);have NB114_115:=zo (zL hg BK114);have NB115_114:=zo (zG hg BK114);replace BK114:=zo (blk_below (zB BK114) hb);clear hb hbox hg;have hnb8:=NB112_113.out;have hnc8:=NB113_112.out;have hnb9:=NB112_114.out;have hnc9:=NB114_112.out;have hnb10:=NB112_115.out;have hnc10:=NB115_112.out;obtain ⟨hcz11_0,hfz11_0,hcz11_1,hfz11_1,hcz11_2,hfz11_2,hcz11_3,hfz11_3⟩:=zn4 BK112)|((with_reducible refine gate_dst (N:=7) rfl ?_);refine box_event ?hg (N:=7) ?hd (cs:=#[.int .i64 0,.int .i64 0,.int .i64 0,.int .i64 0]) (t:=98) ?hr ?_;(case hd=>rfl);(case hg=>rfl);(case hr=>first|(go_simp;done)|(go_simp;rfl));intro gb116 hg w12 hbox hb;have BK116:=zo hbox;have GW116:=zo (zS hg HB);have GE116:=zo (zS hg HB);replace HB:=zo (below_step (zW HB) hb);have NB112_116:=zo (zL hg BK112);have NB116_112:=zo (zG hg BK112);replace BK112:=zo (blk_below (zB BK112) hb);have NB113_116:=zo (zL hg BK113);have NB116_113:=zo (zG hg BK113);replace BK113:=zo (blk_below (zB BK113) hb);have NB114_116:=zo (zL hg BK114);have NB116_114:=zo (zG hg BK114);replace BK114:=zo (blk_below (zB BK114) hb);have NB115_116:=zo (zL hg BK115);have NB116_115:=zo (zG hg BK115);replace BK115:=zo (blk_below (zB BK115) hb);clear hb hbox hg;have hnb13:=NB116_112.out;have hnc13:=NB112_116.out;have hnb14:=NB116_113.out;have hnc14:=NB113_116.out;have hnb15:=NB116_114.out;have hnc15:=NB114_116.out;have hnb16:=NB116_115.out;have hnc16:=NB115_116.out;obtain ⟨hcz17_0,hfz17_0,hcz17_1,hfz17_1,hcz17_2,hfz17_2,hcz17_3,hfz17_3⟩:=zn4 BK116))
 (try simp only [Act.put,List.setIfInBounds_toArray,List.set_cons_zero,List.set_cons_succ])
 go_cut [23] (fun v23 wc=>∃ (kq : Nat) (x23_2 : Bool),v23 = .bool x23_2∧Aside0 (gain_Run.j0 kq x23_2 a1_0 l1_1 a0_0 a0_1 a0_2 a0_3=some (r1,r2,r3,r4,r5,r6,r7))∧Aside0 (kq≤k)∧Aside0 (wc.heap[gb112]?=some (.cells #[.int .i64 a0_0,.int .i64 a0_1,.int .i64 a0_2,.int .i64 a0_3] 52 (0,0)))∧Aside0 (wc.heap[gb113]?=some (.cells #[.int .i64 a1_0,(.slice A1_1 l1_1.length c1_1)] 43 (0,0)))∧Aside0 (wc.heap[gb114]?=some (.cells #[.int .i64 0,(.slice none 0 0)] 43 (0,0)))∧Aside0 (wc.heap[gb115]?=some (.cells #[.int .i64 0,.int .i64 0,.int .i64 0,.int .i64 0] 52 (0,0)))∧Aside0 (wc.heap[gb116]?=some (.cells #[.int .i64 a0_0,.int .i64 a0_1,.int .i64 a0_2,.int .i64 a0_3] 98 (0,0)))∧Aside0 (Below w.heap.size w wc))
 case first=>
  have H:=HC3.out;clear HC3;replace H:=Option.bind_eq_some_iff.mp H;obtain ⟨t117,A180,H⟩:=H
  try dsimp only at H
  have A18:=zo A180;clear A180
  by_cases c19 : t117=true
  rotate_left
  ·replace c19:=Bool.eq_false_iff.mpr c19;subst c19;have H1:=H;rw [if_neg (show ¬ (false=true) by decide)] at H1;clear H;have H:=H1;clear H1;have H':=zo H;clear H;have hnb32:=NB116_112.out;have hnc32:=NB112_116.out;have hnb33:=NB116_113.out;have hnc33:=NB113_116.out;have hnb34:=NB116_114.out;have hnc34:=NB114_116.out;have hnb35:=NB116_115.out;have hnc35:=NB115_116.out;obtain ⟨hcz36_0,hfz36_0,hcz36_1,hfz36_1,hcz36_2,hfz36_2,hcz36_3,hfz36_3⟩:=zn4 BK116
   go_wp2_with (first|((with_reducible refine gate_callee (f:=62) rfl ?_);refine goesL_ (some 17) rfl rfl Try.func62 zk rfl #[.agg #[.int .i64 a0_0,.int .i64 a0_1,.int .i64 a0_2,.int .i64 a0_3]] rfl zA ?_;(with_reducible refine (gain_slope_valid.calls a0_0 a0_1 a0_2 a0_3 false _ A18.out).mono ?_);rintro e w37 ⟨rfl,hb⟩;refine ⟨_,rfl,?_⟩;replace BK112:=zo (blk_below (zB BK112) hb);replace BK113:=zo (blk_below (zB BK113) hb);replace BK114:=zo (blk_below (zB BK114) hb);replace BK115:=zo (blk_below (zB BK115) hb);replace BK116:=zo (blk_below (g:=gb116) (o:=.cells #[.int .i64 a0_0,.int .i64 a0_1,.int .i64 a0_2,.int .i64 a0_3] 98 (0,0)) (zB BK116) hb);replace HB:=zo (below_step (zW HB) hb);(try clear hb)))
   go_meet
   case rel=>exact ⟨_,(true),zE,H',⟨zY⟩,⟨zB BK112⟩,⟨zB BK113⟩,⟨zB BK114⟩,⟨zB BK115⟩,⟨zB BK116⟩,⟨zW HB⟩⟩
  subst c19;have H1:=H;rw [if_pos rfl] at H1;clear H;have H:=H1;clear H1;replace H:=Option.bind_eq_some_iff.mp H;obtain ⟨t118,A200,H⟩:=H
  try dsimp only at H
  have A20:=zo A200;clear A200;have H':=zo H;clear H;have hnb21:=NB116_112.out;have hnc21:=NB112_116.out;have hnb22:=NB116_113.out;have hnc22:=NB113_116.out;have hnb23:=NB116_114.out;have hnc23:=NB114_116.out;have hnb24:=NB116_115.out;have hnc24:=NB115_116.out;obtain ⟨hcz25_0,hfz25_0,hcz25_1,hfz25_1,hcz25_2,hfz25_2,hcz25_3,hfz25_3⟩:=zn4 BK116
  go_wp2_with (first|((with_reducible refine gate_callee (f:=62) rfl ?_);refine goesL_ (some 17) rfl rfl Try.func62 zk rfl #[.agg #[.int .i64 a0_0,.int .i64 a0_1,.int .i64 a0_2,.int .i64 a0_3]] rfl zA ?_;(with_reducible refine (gain_slope_valid.calls a0_0 a0_1 a0_2 a0_3 true _ A18.out).mono ?_);rintro e w26 ⟨rfl,hb⟩;refine ⟨_,rfl,?_⟩;replace BK112:=zo (blk_below (zB BK112) hb);replace BK113:=zo (blk_below (zB BK113) hb);replace BK114:=zo (blk_below (zB BK114) hb);replace BK115:=zo (blk_below (zB BK115) hb);replace BK116:=zo (blk_below (g:=gb116) (o:=.cells #[.int .i64 a0_0,.int .i64 a0_1,.int .i64 a0_2,.int .i64 a0_3] 98 (0,0)) (zB BK116) hb);replace HB:=zo (below_step (zW HB) hb);(try clear hb);have hnb27:=NB113_112.out;have hnc27:=NB112_113.out;have hnb28:=NB113_114.out;have hnc28:=NB114_113.out;have hnb29:=NB113_115.out;have hnc29:=NB115_113.out;obtain ⟨hcz30_0,hfz30_0,hcz30_1,hfz30_1⟩:=zn2 BK113)|(go_at_call 48;(with_reducible refine (sample_Valid.calls k a1_0 _ _ l1_1 t118 _ ?side1 ?side2 A20.out).mono ?_);(case side1=>repeat (first|exact (Kd.C_below HR1_1.out HB.out)|(with_reducible refine Kd.C_alloc ?_ _)|(with_reducible refine Kd.C_drewN ?_ _)|(with_reducible refine Kd.C_drew ?_)));(case side2=>exact HC1_1.out);rintro e w31 ⟨rfl,hb⟩;replace BK112:=zo (blk_below (zB BK112) hb);replace BK113:=zo (blk_below (zB BK113) hb);replace BK114:=zo (blk_below (zB BK114) hb);replace BK115:=zo (blk_below (zB BK115) hb);replace BK116:=zo (blk_below (zB BK116) hb);replace HB:=zo (below_step (zW HB) hb);(try clear hb)))
  go_meet
  case rel=>exact ⟨_,(!t118),zE,H',⟨zY⟩,⟨zB BK112⟩,⟨zB BK113⟩,⟨zB BK114⟩,⟨zB BK115⟩,⟨zB BK116⟩,⟨zW HB⟩⟩
 case rest=>
  clear HC3
  try clear c1
  try clear c2
  try clear p2
  try clear c3
  try clear c4
  try clear c6
  try clear c8
  try clear c9
  try clear c10
  try clear c13
  try clear c14
  try clear c15
  try clear c16
  try clear c19
  try clear c21
  try clear c22
  try clear c23
  try clear c24
  try clear c27
  try clear c28
  try clear c29
  try clear c32
  try clear c33
  try clear c34
  try clear c35
  obtain ⟨kq,x23_2,rfl,HA,HJ2,BK112,BK113,BK114,BK115,BK116,HB⟩:=hcut
  cases kq with
  | zero=>exact absurd HA.out (by simp [gain_Run.j0])
  | succ kj2=>
   have H:=HA.out;clear HA;simp only [gain_Run.j0] at H
   by_cases c38 : x23_2=true
   ·subst c38;have H1:=H;rw [if_pos rfl] at H1;clear H;have H:=H1;clear H1;simp only [Option.some.injEq,Prod.mk.injEq] at H;obtain ⟨rfl,rfl,rfl,rfl,rfl,rfl,rfl⟩:=H;have hnb39:=NB114_112.out;have hnc39:=NB112_114.out;have hnb40:=NB114_113.out;have hnc40:=NB113_114.out;have hnb41:=NB114_115.out;have hnc41:=NB115_114.out;have hnb42:=NB114_116.out;have hnc42:=NB116_114.out;obtain ⟨hcz43_0,hfz43_0,hcz43_1,hfz43_1⟩:=zn2 BK114;have hnb44:=NB115_112.out;have hnc44:=NB112_115.out;have hnb45:=NB115_113.out;have hnc45:=NB113_115.out;have hnb46:=NB115_116.out;have hnc46:=NB116_115.out;obtain ⟨hcz47_0,hfz47_0,hcz47_1,hfz47_1,hcz47_2,hfz47_2,hcz47_3,hfz47_3⟩:=zn4 BK115
    go_wp2
    refine bodyPost_ret (results_list (rs:=[.cell 4 43,.cell 5 52,.tmp 6]) rfl (by simp) (.cell gb114 43 #[.int .i64 0,.slice none 0 0] (0,0) _ rfl (zB BK114) Try.underlying43 rfl zk (.cell gb115 52 #[.int .i64 0,.int .i64 0,.int .i64 0,.int .i64 0] (0,0) _ rfl (zB BK115) Try.underlying52 rfl zk (.tmp .nil)))) rfl ?_;exact ⟨_,zX,by first|exact Kd.R_nil _ _ _ _ _|exact Kd.N_nil _ _ _ _ _|exact Kd.V_nil _ _ _ _ _|exact Kd.Q_nil _ _ _ _ _|exact Kd.S_nil _ _ _ _ _,zW HB⟩
   replace c38:=Bool.eq_false_iff.mpr c38;subst c38;have H1:=H;rw [if_neg (show ¬ (false=true) by decide)] at H1;clear H;have H:=H1;clear H1
   by_cases c48 : 0≤(l1_1.length : Int)
   rotate_left
   ·rw [if_neg c48] at H;exact absurd H (by simp)
   rw [if_pos c48] at H;have c48b0:=eq_true c48;have c48b1:=decide_eq_true c48;clear c48
   by_cases c49 : ((l1_1.length : Int) : Int).toNat≤70368744177664
   rotate_left
   ·rw [if_neg c49] at H;exact absurd H (by simp)
   rw [if_pos c49] at H;have c49b0:=eq_true c49;have c49b1:=decide_eq_true c49;clear c49;obtain ⟨y119,hy119⟩ : ∃ y_ : List Int,y_=(([] : List Int)):=⟨_,rfl⟩;replace H : (if a1_0=0 then (none) else (gain_Run.l0 kj2 (wrap64 ((l1_1.length : Int) / a1_0)) (wrap64 ((l1_1.length : Int) / a1_0)) 0 a1_0 l1_1 a0_0 a0_1 a0_2 a0_3 a1_0 y119))=some (r1,r2,r3,r4,r5,r6,r7):=by first|(rw [hy119];with_reducible exact H)|(have H2_:=(Option.bind_some _ _).symm.trans H;rw [hy119];with_reducible exact H2_)|(have H2_:=(Option.bind_some _ _).symm.trans H;with_reducible exact H2_)|with_reducible exact H|(rw [hy119];exact H)|exact H
   have Ny119:=zo hy119;clear hy119
   by_cases c50 : a1_0=0
   ·rw [if_pos c50] at H;exact absurd H (by simp)
   rw [if_neg c50] at H;have c50b0 : (a1_0 == 0)=false:=beq_eq_false_iff_ne.mpr c50;have c50b1 : (a1_0 != 0)=true:=bne_iff_ne.mpr c50;have H':=zo H;clear H
   try go_wp2
   have n0_:=zo (blk_drew BK112.out);have n1_:=zo (blk_drew BK113.out);have n2_:=zo (blk_drew BK114.out);have n3_:=zo (blk_drew BK115.out);have n4_:=zo (blk_drew BK116.out);have n5_:=zo (below_drew1 HB.out);clear BK112;clear BK113;clear BK114;clear BK115;clear BK116;clear HB;have BK112:=n0_;have BK113:=n1_;have BK114:=n2_;have BK115:=n3_;have BK116:=n4_;have HB:=n5_;clear n0_ n1_ n2_ n3_ n4_ n5_;refine start_ (n:=9) (S:=fun w'=>w'.cell? ⟨gb113,0,none⟩=some (.int .i64 a1_0)∧w'.cell? ⟨gb113,1,none⟩=some (.slice A1_1 l1_1.length c1_1)) (ds:=[]) #[false,false,false,false,false,false,false,false,false] zk rfl rfl ⟨(blk_cell BK113.out 0).trans rfl,(blk_cell BK113.out 1).trans rfl⟩ (fun hHeld=>?_);refine with_tabW gain_Run.tab4 gain_Run.bits4 (fun HT_ HW_=>?_);generalize wc.drew=w51 at BK112 BK113 BK114 BK115 BK116 HB hHeld ⊢;refine pure_ (i:=0) (N:=some 26) (v:=?_) (a':=?_) #[true,false,false,false,false,false,false,false,false] rfl rfl (any_of HT_.out zk) (fun _ _ _ h=>h) (Or.inl ⟨by rfl,?_⟩) ?_ ?_;rotate_left
   ·intro w'
    go_simp
    with_reducible rfl
   rotate_left
   ·simp only [Act.put,List.setIfInBounds_toArray,List.set_cons_zero,List.set_cons_succ,i64_w,i32_w];rfl
   refine pure_ (i:=2) (N:=some 28) (v:=?_) (a':=?_) #[true,false,true,false,false,false,false,false,false] rfl rfl (any_of HT_.out zk) (fun _ _ _ h=>h) (Or.inl ⟨by rfl,?_⟩) ?_ ?_;rotate_left
   ·intro w'
    go_simp
    with_reducible rfl
   rotate_left
   ·simp only [Act.put,List.setIfInBounds_toArray,List.set_cons_zero,List.set_cons_succ,i64_w,i32_w];rfl
   refine take_ (i:=1) (N:=some 27) (v:=?_) (a':=?_) #[true,true,true,false,false,false,false,false,false] rfl rfl (take_ofW HT_.out HW_.out zk) (fun _ _ _ h=>h) (Or.inl ⟨by rfl,?_⟩) hHeld ?_ ?_;rotate_left
   ·rintro w' ⟨s0,s1⟩
    go_simp
    with_reducible rfl
   rotate_left
   ·simp only [Act.put,List.setIfInBounds_toArray,List.set_cons_zero,List.set_cons_succ,i64_w,i32_w];rfl
   refine take_ (i:=3) (N:=some 29) (v:=?_) (a':=?_) #[true,true,true,true,false,false,false,false,false] rfl rfl (take_ofW HT_.out HW_.out zk) (fun _ _ _ h=>h) (Or.inl ⟨by rfl,?_⟩) hHeld ?_ ?_;rotate_left
   ·rintro w' ⟨s0,s1⟩
    go_simp
    with_reducible rfl
   rotate_left
   ·simp only [Act.put,List.setIfInBounds_toArray,List.set_cons_zero,List.set_cons_succ,i64_w,i32_w];rfl
   refine pure_ (i:=4) (N:=some 30) (v:=?_) (a':=?_) #[true,true,true,true,true,false,false,false,false] rfl rfl (any_of HT_.out zk) (fun _ _ _ h=>h) (Or.inl ⟨by rfl,?_⟩) ?_ ?_;rotate_left
   ·intro w'
    go_simp
    with_reducible rfl
   rotate_left
   ·simp only [Act.put,List.setIfInBounds_toArray,List.set_cons_zero,List.set_cons_succ,i64_w,i32_w];rfl
   refine join_ (σ:=Value×Nat) 1 #[true,true,true,true,true,true,true,true,false] (fun s_=>[(31,s_.1),(8,.pointer (some ⟨s_.2,0,none⟩)),(32,.agg #[.int .i64 a1_0,s_.1])]) (fun s_ w'=>(w'.cell? ⟨gb113,0,none⟩=some (.int .i64 a1_0)∧w'.cell? ⟨gb113,1,none⟩=some (.slice A1_1 l1_1.length c1_1))∧(Kd.R (Kd.int .i32) 21 w' w.heap.size (fun _=>True) s_.1 y119)∧(w'.heap[gb112]?=some (.cells #[.int .i64 a0_0,.int .i64 a0_1,.int .i64 a0_2,.int .i64 a0_3] 52 (0,0)))∧(w'.heap[gb113]?=some (.cells #[.int .i64 a1_0,.slice A1_1 l1_1.length c1_1] 43 (0,0)))∧(w'.heap[gb114]?=some (.cells #[.int .i64 0,.slice none 0 0] 43 (0,0)))∧(w'.heap[gb115]?=some (.cells #[.int .i64 0,.int .i64 0,.int .i64 0,.int .i64 0] 52 (0,0)))∧(w'.heap[gb116]?=some (.cells #[.int .i64 a0_0,.int .i64 a0_1,.int .i64 a0_2,.int .i64 a0_3] 98 (0,0)))∧(w'.heap[s_.2]?=some (.cells #[.int .i64 0,.slice none 0 0] 43 (0,0)))∧(w.heap.size≤s_.2)∧(w.heap.size≤s_.2)∧(gb112≠s_.2)∧(s_.2≠gb112)∧(gb113≠s_.2)∧(s_.2≠gb113)∧(gb114≠s_.2)∧(s_.2≠gb114)∧(gb115≠s_.2)∧(s_.2≠gb115)∧(gb116≠s_.2)∧(s_.2≠gb116)∧(Below w.heap.size w w')) ?_ ?_;rotate_left
   ·intro hCont;refine two_ (i:=5) (j:=7) (Ni:=some 31) (Nj:=some 8) #[true,true,true,true,true,true,false,false,false] #[true,true,true,true,true,false,false,true,false] rfl rfl rfl rfl (two_of HT_.out zk) (by decide) (by decide) (fun K hK=>?_) (fun K hK=>?_)
    ·skip
     refine Kd.R_make0_step (Kd.int .i32) _ 21 (by rfl) (N:=31) rfl 41 _ _ rfl (l1_1.length : Int) rfl rfl Try.underlying41 (.int .i32 0) 4 info21 rfl (by decide) (by omega) 0 (ok:=fun _=>True) (okp:=fun _=>True) rfl (fun _ hk=>hk) trivial (zD) (Nat.le_trans (Nat.mul_le_mul_right _ (zD : (l1_1.length : Int).toNat≤70368744177664)) (by omega)) (Below.refl _ _) (Nat.le_refl _) ?_;intro v120 w52 ho53 hb hg_ hnew_;clear hg_ hnew_;(first|rw [← Ny119.out] at ho53|(simp only [Int.reduceToNat] at ho53;rw [← Ny119.out] at ho53));have n0_:=zo (Kd.R_lower ho53 (below_size (zW HB)));have n1_:=zo (blk_below (zB BK112) hb);have n2_:=zo (blk_below (zB BK113) hb);have n3_:=zo (blk_below (zB BK114) hb);have n4_:=zo (blk_below (zB BK115) hb);have n5_:=zo (blk_below (zB BK116) hb);have n6_:=zo (below_step (zW HB) hb);clear BK112;clear BK113;clear BK114;clear BK115;clear BK116;clear HB;have HO121:=n0_;have BK112:=n1_;have BK113:=n2_;have BK114:=n3_;have BK115:=n4_;have BK116:=n5_;have HB:=n6_;clear n0_ n1_ n2_ n3_ n4_ n5_ n6_;clear hb ho53;obtain ⟨Ao54,co54,eo54⟩:=Kd.R_slice HO121.out;(first|subst eo54|(injection eo54 with f1_ f2_ f3_;have f4_:=f1_.symm;have f5_:=f3_.symm;clear f1_ f2_ f3_;subst f4_;subst f5_));refine hK.out _ _ ⟨(blk_cell BK113.out 0).trans rfl,(blk_cell BK113.out 1).trans rfl⟩ (fun hHeld=>?_);clear hK K;refine norm_ (a':=?_) ?_ ?_;rotate_left
     ·show Act.put _ (some 31) _=_
      simp only [Act.put,List.setIfInBounds_toArray,List.set_cons_zero,List.set_cons_succ,i64_w,i32_w];rfl
     refine pure_ (i:=6) (N:=some 32) (v:=?_) (a':=?_) #[true,true,true,true,true,true,true,false,false] rfl rfl (any_of HT_.out zk) (fun _ _ _ h=>h) (Or.inl ⟨by rfl,?_⟩) ?_ ?_;rotate_left
     ·intro w'
      go_simp
      with_reducible rfl
     rotate_left
     ·simp only [Act.put,List.setIfInBounds_toArray,List.set_cons_zero,List.set_cons_succ,i64_w,i32_w];rfl
     refine one_ (i:=7) (N:=some 8) #[true,true,true,true,true,true,true,true,false] rfl rfl (one_of HT_.out zk) (by decide) (fun K hK=>?_);refine box_step ?hg (N:=8) ?hd (cs:=#[.int .i64 0,.slice none 0 0]) (t:=43) ?hr ?_;(case hd=>rfl);(case hg=>rfl);(case hr=>first|(go_simp;done)|(go_simp;rfl));intro gb122 hg w55 hbox hb;have n0_:=zo (Kd.R_below (zR HO121) hb);have n1_:=zo (blk_below (zB BK112) hb);have n2_:=zo (blk_below (zB BK113) hb);have n3_:=zo (blk_below (zB BK114) hb);have n4_:=zo (blk_below (zB BK115) hb);have n5_:=zo (blk_below (zB BK116) hb);have n6_:=zo (below_step (zW HB) hb);have n7_:=zo hbox;have n8_:=zo (zS hg HB);have n9_:=zo (zS hg HB);have n10_:=zo (zL hg BK112);have n11_:=zo (zG hg BK112);have n12_:=zo (zL hg BK113);have n13_:=zo (zG hg BK113);have n14_:=zo (zL hg BK114);have n15_:=zo (zG hg BK114);have n16_:=zo (zL hg BK115);have n17_:=zo (zG hg BK115);have n18_:=zo (zL hg BK116);have n19_:=zo (zG hg BK116);clear HO121;clear BK112;clear BK113;clear BK114;clear BK115;clear BK116;clear HB;have HO121:=n0_;have BK112:=n1_;have BK113:=n2_;have BK114:=n3_;have BK115:=n4_;have BK116:=n5_;have HB:=n6_;have BK122:=n7_;have GW122:=n8_;have GE122:=n9_;have NB112_122:=n10_;have NB122_112:=n11_;have NB113_122:=n12_;have NB122_113:=n13_;have NB114_122:=n14_;have NB122_114:=n15_;have NB115_122:=n16_;have NB122_115:=n17_;have NB116_122:=n18_;have NB122_116:=n19_;clear n0_ n1_ n2_ n3_ n4_ n5_ n6_ n7_ n8_ n9_ n10_ n11_ n12_ n13_ n14_ n15_ n16_ n17_ n18_ n19_;clear hb hbox hg;refine hK.out _ _ ⟨(blk_cell BK113.out 0).trans rfl,(blk_cell BK113.out 1).trans rfl⟩ (fun hHeld=>?_);clear hK K;refine norm_ (a':=?_) ?_ ?_;rotate_left
     ·show Act.put _ (some 8) _=_
      simp only [Act.put,List.setIfInBounds_toArray,List.set_cons_zero,List.set_cons_succ,i64_w,i32_w];rfl
     exact norm_ (by simp only [putAll,Act.put,List.setIfInBounds_toArray,List.set_cons_zero,List.set_cons_succ]) (hCont (.slice Ao54 y119.length co54,gb122) _ ⟨hHeld,(zR HO121),(zB BK112),(zB BK113),(zB BK114),(zB BK115),(zB BK116),(zB BK122),GW122.out,GE122.out,NB112_122.out,NB122_112.out,NB113_122.out,NB122_113.out,NB114_122.out,NB122_114.out,NB115_122.out,NB122_115.out,NB116_122.out,NB122_116.out,(zW HB)⟩)
    ·skip
     refine box_step ?hg (N:=8) ?hd (cs:=#[.int .i64 0,.slice none 0 0]) (t:=43) ?hr ?_;(case hd=>rfl);(case hg=>rfl);(case hr=>first|(go_simp;done)|(go_simp;rfl));intro gb122 hg w52 hbox hb;have n0_:=zo (blk_below (zB BK112) hb);have n1_:=zo (blk_below (zB BK113) hb);have n2_:=zo (blk_below (zB BK114) hb);have n3_:=zo (blk_below (zB BK115) hb);have n4_:=zo (blk_below (zB BK116) hb);have n5_:=zo (below_step (zW HB) hb);have n6_:=zo hbox;have n7_:=zo (zS hg HB);have n8_:=zo (zS hg HB);have n9_:=zo (zL hg BK112);have n10_:=zo (zG hg BK112);have n11_:=zo (zL hg BK113);have n12_:=zo (zG hg BK113);have n13_:=zo (zL hg BK114);have n14_:=zo (zG hg BK114);have n15_:=zo (zL hg BK115);have n16_:=zo (zG hg BK115);have n17_:=zo (zL hg BK116);have n18_:=zo (zG hg BK116);clear BK112;clear BK113;clear BK114;clear BK115;clear BK116;clear HB;have BK112:=n0_;have BK113:=n1_;have BK114:=n2_;have BK115:=n3_;have BK116:=n4_;have HB:=n5_;have BK122:=n6_;have GW122:=n7_;have GE122:=n8_;have NB112_122:=n9_;have NB122_112:=n10_;have NB113_122:=n11_;have NB122_113:=n12_;have NB114_122:=n13_;have NB122_114:=n14_;have NB115_122:=n15_;have NB122_115:=n16_;have NB116_122:=n17_;have NB122_116:=n18_;clear n0_ n1_ n2_ n3_ n4_ n5_ n6_ n7_ n8_ n9_ n10_ n11_ n12_ n13_ n14_ n15_ n16_ n17_ n18_;clear hb hbox hg;refine hK.out _ _ ⟨(blk_cell BK113.out 0).trans rfl,(blk_cell BK113.out 1).trans rfl⟩ (fun hHeld=>?_);clear hK K;refine norm_ (a':=?_) ?_ ?_;rotate_left
     ·show Act.put _ (some 8) _=_
      simp only [Act.put,List.setIfInBounds_toArray,List.set_cons_zero,List.set_cons_succ,i64_w,i32_w];rfl
     refine one_ (i:=5) (N:=some 31) #[true,true,true,true,true,true,false,true,false] rfl rfl (one_of HT_.out zk) (by decide) (fun K hK=>?_);refine Kd.R_make0_step (Kd.int .i32) _ 21 (by rfl) (N:=31) rfl 41 _ _ rfl (l1_1.length : Int) rfl rfl Try.underlying41 (.int .i32 0) 4 info21 rfl (by decide) (by omega) 0 (ok:=fun _=>True) (okp:=fun _=>True) rfl (fun _ hk=>hk) trivial (zD) (Nat.le_trans (Nat.mul_le_mul_right _ (zD : (l1_1.length : Int).toNat≤70368744177664)) (by omega)) (Below.refl _ _) (Nat.le_refl _) ?_;intro v120 w53 ho54 hb hg_ hnew_;clear hg_ hnew_;(first|rw [← Ny119.out] at ho54|(simp only [Int.reduceToNat] at ho54;rw [← Ny119.out] at ho54));have n0_:=zo (Kd.R_lower ho54 (below_size (zW HB)));have n1_:=zo (blk_below (zB BK112) hb);have n2_:=zo (blk_below (zB BK113) hb);have n3_:=zo (blk_below (zB BK114) hb);have n4_:=zo (blk_below (zB BK115) hb);have n5_:=zo (blk_below (zB BK116) hb);have n6_:=zo (blk_below (zB BK122) hb);have n7_:=zo (below_step (zW HB) hb);clear BK112;clear BK113;clear BK114;clear BK115;clear BK116;clear BK122;clear HB;have HO121:=n0_;have BK112:=n1_;have BK113:=n2_;have BK114:=n3_;have BK115:=n4_;have BK116:=n5_;have BK122:=n6_;have HB:=n7_;clear n0_ n1_ n2_ n3_ n4_ n5_ n6_ n7_;clear hb ho54;obtain ⟨Ao55,co55,eo55⟩:=Kd.R_slice HO121.out;(first|subst eo55|(injection eo55 with f1_ f2_ f3_;have f4_:=f1_.symm;have f5_:=f3_.symm;clear f1_ f2_ f3_;subst f4_;subst f5_));refine hK.out _ _ ⟨(blk_cell BK113.out 0).trans rfl,(blk_cell BK113.out 1).trans rfl⟩ (fun hHeld=>?_);clear hK K;refine norm_ (a':=?_) ?_ ?_;rotate_left
     ·show Act.put _ (some 31) _=_
      simp only [Act.put,List.setIfInBounds_toArray,List.set_cons_zero,List.set_cons_succ,i64_w,i32_w];rfl
     refine pure_ (i:=6) (N:=some 32) (v:=?_) (a':=?_) #[true,true,true,true,true,true,true,true,false] rfl rfl (any_of HT_.out zk) (fun _ _ _ h=>h) (Or.inl ⟨by rfl,?_⟩) ?_ ?_;rotate_left
     ·intro w'
      go_simp
      with_reducible rfl
     rotate_left
     ·simp only [Act.put,List.setIfInBounds_toArray,List.set_cons_zero,List.set_cons_succ,i64_w,i32_w];rfl
     exact norm_ (by simp only [putAll,Act.put,List.setIfInBounds_toArray,List.set_cons_zero,List.set_cons_succ]) (hCont (.slice Ao55 y119.length co55,gb122) _ ⟨hHeld,(zR HO121),(zB BK112),(zB BK113),(zB BK114),(zB BK115),(zB BK116),(zB BK122),GW122.out,GE122.out,NB112_122.out,NB122_112.out,NB113_122.out,NB122_113.out,NB114_122.out,NB122_114.out,NB115_122.out,NB122_115.out,NB116_122.out,NB122_116.out,(zW HB)⟩)
   rintro ⟨v120,gb122⟩ w56 ⟨hS_,h0_,h1_,h2_,h3_,h4_,h5_,h6_,h7_,h8_,h9_,h10_,h11_,h12_,h13_,h14_,h15_,h16_,h17_,h18_,h19_⟩;have n0_ : Aside0 (Kd.R (Kd.int .i32) 21 w56 w.heap.size (fun _=>True) v120 y119):=⟨h0_⟩;have n1_ : Aside0 (w56.heap[gb112]?=some (.cells #[.int .i64 a0_0,.int .i64 a0_1,.int .i64 a0_2,.int .i64 a0_3] 52 (0,0))):=⟨h1_⟩;have n2_ : Aside0 (w56.heap[gb113]?=some (.cells #[.int .i64 a1_0,.slice A1_1 l1_1.length c1_1] 43 (0,0))):=⟨h2_⟩;have n3_ : Aside0 (w56.heap[gb114]?=some (.cells #[.int .i64 0,.slice none 0 0] 43 (0,0))):=⟨h3_⟩;have n4_ : Aside0 (w56.heap[gb115]?=some (.cells #[.int .i64 0,.int .i64 0,.int .i64 0,.int .i64 0] 52 (0,0))):=⟨h4_⟩;have n5_ : Aside0 (w56.heap[gb116]?=some (.cells #[.int .i64 a0_0,.int .i64 a0_1,.int .i64 a0_2,.int .i64 a0_3] 98 (0,0))):=⟨h5_⟩;have n6_ : Aside0 (w56.heap[gb122]?=some (.cells #[.int .i64 0,.slice none 0 0] 43 (0,0))):=⟨h6_⟩;have n7_ : Aside0 (w.heap.size≤gb122):=⟨h7_⟩;have n8_ : Aside0 (w.heap.size≤gb122):=⟨h8_⟩;have n9_ : Aside0 (gb112≠gb122):=⟨h9_⟩;have n10_ : Aside0 (gb122≠gb112):=⟨h10_⟩;have n11_ : Aside0 (gb113≠gb122):=⟨h11_⟩;have n12_ : Aside0 (gb122≠gb113):=⟨h12_⟩;have n13_ : Aside0 (gb114≠gb122):=⟨h13_⟩;have n14_ : Aside0 (gb122≠gb114):=⟨h14_⟩;have n15_ : Aside0 (gb115≠gb122):=⟨h15_⟩;have n16_ : Aside0 (gb122≠gb115):=⟨h16_⟩;have n17_ : Aside0 (gb116≠gb122):=⟨h17_⟩;have n18_ : Aside0 (gb122≠gb116):=⟨h18_⟩;have n19_ : Aside0 (Below w.heap.size w w56):=⟨h19_⟩;clear BK112;clear BK113;clear BK114;clear BK115;clear BK116;clear HB;clear h0_ h1_ h2_ h3_ h4_ h5_ h6_ h7_ h8_ h9_ h10_ h11_ h12_ h13_ h14_ h15_ h16_ h17_ h18_ h19_;have HO121:=n0_;have BK112:=n1_;have BK113:=n2_;have BK114:=n3_;have BK115:=n4_;have BK116:=n5_;have BK122:=n6_;have GW122:=n7_;have GE122:=n8_;have NB112_122:=n9_;have NB122_112:=n10_;have NB113_122:=n11_;have NB122_113:=n12_;have NB114_122:=n13_;have NB122_114:=n14_;have NB115_122:=n15_;have NB122_115:=n16_;have NB116_122:=n17_;have NB122_116:=n18_;have HB:=n19_;clear n0_ n1_ n2_ n3_ n4_ n5_ n6_ n7_ n8_ n9_ n10_ n11_ n12_ n13_ n14_ n15_ n16_ n17_ n18_ n19_;have hHeld : w56.cell? ⟨gb113,0,none⟩=some (.int .i64 a1_0)∧w56.cell? ⟨gb113,1,none⟩=some (.slice A1_1 l1_1.length c1_1):=hS_;obtain ⟨Ao57,co57,eo57⟩:=Kd.R_slice HO121.out;(first|subst eo57|(injection eo57 with f1_ f2_ f3_;have f4_:=f1_.symm;have f5_:=f3_.symm;clear f1_ f2_ f3_;subst f4_;subst f5_));refine norm_ (a':=?_) ?_ ?_;rotate_left
   ·simp only [putAll,Act.put,List.setIfInBounds_toArray,List.set_cons_zero,List.set_cons_succ];rfl
   refine one_ (i:=8) (N:=none) #[true,true,true,true,true,true,true,true,true] rfl rfl (one_of HT_.out zk) (by decide) (fun K hK=>?_);have hs58:=zc BK122 0 (.int .i64 0) rfl;have hfs58:=blk_frozen BK122.out 0;have hns58_0:=NB112_122.out;have hns58_1:=NB113_122.out;have hns58_2:=NB114_122.out;have hns58_3:=NB115_122.out;have hns58_4:=NB116_122.out;have hms58_0:=NB122_112.out;have hms58_1:=NB122_113.out;have hms58_2:=NB122_114.out;have hms58_3:=NB122_115.out;have hms58_4:=NB122_116.out;have hs59:=zc BK122 1 (.slice none 0 0) rfl;have hfs59:=blk_frozen BK122.out 1;have hns59_0:=NB112_122.out;have hns59_1:=NB113_122.out;have hns59_2:=NB114_122.out;have hns59_3:=NB115_122.out;have hns59_4:=NB116_122.out;have hms59_0:=NB122_112.out;have hms59_1:=NB122_113.out;have hms59_2:=NB122_114.out;have hms59_3:=NB122_115.out;have hms59_4:=NB122_116.out;refine skip_ (w1:=?_) (by rfl) rfl ?_ ?_;rotate_left
   ·go_simp
    rfl
   refine hK.out _ _ ⟨((cell_far (p:=⟨gb122,_,none⟩) NB113_122.out _).trans (((cell_far (p:=⟨gb122,_,none⟩) NB113_122.out _).trans (hHeld.1)))),((cell_far (p:=⟨gb122,_,none⟩) NB113_122.out _).trans (((cell_far (p:=⟨gb122,_,none⟩) NB113_122.out _).trans (hHeld.2))))⟩ (fun hHeld=>?_);clear hK K;refine done_ (done_of HT_.out zk) ?_;have hnb60:=NB113_112.out;have hnc60:=NB112_113.out;have hnb61:=NB113_114.out;have hnc61:=NB114_113.out;have hnb62:=NB113_115.out;have hnc62:=NB115_113.out;have hnb63:=NB113_116.out;have hnc63:=NB116_113.out;have hnb64:=NB113_122.out;have hnc64:=NB122_113.out;obtain ⟨hcz65_0,hfz65_0,hcz65_1,hfz65_1⟩:=zn2 BK113
   try go_wp2
   go_loopg [40] kj2 (fun kq v40 w'=>∃ (x40_2 : Int) (x123001_2 : List Int) (u123001 : Value),v40 = .int .i64 x40_2∧Aside0 (gain_Run.l0 kq (wrap64 ((l1_1.length : Int) / a1_0)) (wrap64 ((l1_1.length : Int) / a1_0)) x40_2 a1_0 l1_1 a0_0 a0_1 a0_2 a0_3 a1_0 x123001_2=some (r1,r2,r3,r4,r5,r6,r7))∧Aside0 (kq≤kj2)∧Aside0 (Kd.R (Kd.int .i32) 21 w' w.heap.size (fun _=>True) u123001 x123001_2)∧Aside0 (w'.heap[gb112]?=some (.cells #[.int .i64 a0_0,.int .i64 a0_1,.int .i64 a0_2,.int .i64 a0_3] 52 (0,0)))∧Aside0 (w'.heap[gb113]?=some (.cells #[.int .i64 a1_0,(.slice A1_1 l1_1.length c1_1)] 43 (0,0)))∧Aside0 (w'.heap[gb114]?=some (.cells #[.int .i64 0,(.slice none 0 0)] 43 (0,0)))∧Aside0 (w'.heap[gb115]?=some (.cells #[.int .i64 0,.int .i64 0,.int .i64 0,.int .i64 0] 52 (0,0)))∧Aside0 (w'.heap[gb116]?=some (.cells #[.int .i64 a0_0,.int .i64 a0_1,.int .i64 a0_2,.int .i64 a0_3] 98 (0,0)))∧Aside0 (w'.heap[gb122]?=some (.cells #[.int .i64 a1_0,u123001] 43 (0,0)))∧Aside0 (Below w.heap.size w w'))
   case atStart=>exact ⟨(0),(y119),(.slice Ao57 y119.length co57),zE,H',⟨Nat.le_refl _⟩,⟨by (with_reducible repeat (first|apply Kd.R_alloc|apply Kd.R_drewN|apply Kd.R_drew));exact Kd.R_mono (Kd.R_far (p:=⟨gb122,1,none⟩) (Kd.R_far (p:=⟨gb122,0,none⟩) (Kd.R_types HO121.out BK122.out (by decide)) (fun _ hk=>hk.2) (.int .i64 a1_0)) (fun _ hk=>hk.2) (.slice Ao57 y119.length co57)) (fun _ hk=>trivial)⟩,⟨zB BK112⟩,⟨zB BK113⟩,⟨zB BK114⟩,⟨zB BK115⟩,⟨zB BK116⟩,⟨zB BK122⟩,⟨zW HB⟩⟩
   case round=>
    clear H'
    try clear c1
    try clear c2
    try clear p2
    try clear c3
    try clear c4
    try clear c5
    try clear c6
    try clear p6
    try clear c8
    try clear c9
    try clear c10
    try clear c13
    try clear c14
    try clear c15
    try clear c16
    try clear c19
    try clear c21
    try clear c22
    try clear c23
    try clear c24
    try clear c27
    try clear c28
    try clear c29
    try clear c32
    try clear c33
    try clear c34
    try clear c35
    try clear c38
    try clear c39
    try clear c40
    try clear c41
    try clear c42
    try clear c44
    try clear c45
    try clear c46
    try clear c48
    try clear c48b0
    try clear c48b1
    try clear c49
    try clear c49b0
    try clear c49b1
    try clear c50
    try clear c50b0
    try clear c50b1
    try clear c60
    try clear c61
    try clear c62
    try clear c63
    try clear c64
    try clear p64
    try clear p2
    obtain ⟨x40_2,x123001_2,u123001,rfl,HA,HK2,HO_123001,BK112,BK113,BK114,BK115,BK116,BK122,HB⟩:=hrel
    cases gk with
    | zero=>exact absurd HA.out (by simp [gain_Run.l0])
    | succ k2=>
     have H:=HA.out;clear HA;simp only [gain_Run.l0] at H
     by_cases c66 : x40_2<(wrap64 ((l1_1.length : Int) / a1_0))
     rotate_left
     ·rw [if_neg c66] at H;have c66b0:=decide_eq_false c66;clear c66;obtain ⟨ji95,hji95⟩ : ∃ j_ : Int,(mn a0_2 (wrap64 (a0_3+(wrap64 ((l1_1.length : Int) / a1_0)))))=j_:=⟨_,rfl⟩;(first|rw [hji95] at H|simp only [hji95] at H);have hji95_ : (if (wrap64 (a0_3+(wrap64 ((l1_1.length : Int) / a1_0))))<a0_2 then (wrap64 (a0_3+(wrap64 ((l1_1.length : Int) / a1_0)))) else a0_2)=ji95:=hji95;simp only [Option.some.injEq,Prod.mk.injEq] at H;obtain ⟨rfl,rfl,rfl,rfl,rfl,rfl,rfl⟩:=H;have hnb96:=NB116_112.out;have hnc96:=NB112_116.out;have hnb97:=NB116_113.out;have hnc97:=NB113_116.out;have hnb98:=NB116_114.out;have hnc98:=NB114_116.out;have hnb99:=NB116_115.out;have hnc99:=NB115_116.out;have hnb100:=NB116_122.out;have hnc100:=NB122_116.out;obtain ⟨hcz101_0,hfz101_0,hcz101_1,hfz101_1,hcz101_2,hfz101_2,hcz101_3,hfz101_3⟩:=zn4 BK116
      try go_wp2
      have n0_ : Aside0 (Kd.R (Kd.int .i32) 21 (wr.setCell ⟨gb116,3,none⟩ (.int .i64 ji95)) w.heap.size (fun _=>True) u123001 x123001_2):=⟨by (with_reducible repeat (first|apply Kd.R_alloc|apply Kd.R_drewN|apply Kd.R_drew));exact Kd.R_mono (Kd.R_far (p:=⟨gb116,3,none⟩) (Kd.R_types HO_123001.out BK116.out (by decide)) (fun _ hk=>hk.2) (.int .i64 ji95)) (fun _ hk=>trivial)⟩;have n1_ : Aside0 ((wr.setCell ⟨gb116,3,none⟩ (.int .i64 ji95)).heap[gb112]?=some (.cells #[.int .i64 a0_0,.int .i64 a0_1,.int .i64 a0_2,.int .i64 a0_3] 52 (0,0))):=⟨zB BK112⟩;have n2_ : Aside0 ((wr.setCell ⟨gb116,3,none⟩ (.int .i64 ji95)).heap[gb113]?=some (.cells #[.int .i64 a1_0,.slice A1_1 l1_1.length c1_1] 43 (0,0))):=⟨zB BK113⟩;have n3_ : Aside0 ((wr.setCell ⟨gb116,3,none⟩ (.int .i64 ji95)).heap[gb114]?=some (.cells #[.int .i64 0,.slice none 0 0] 43 (0,0))):=⟨zB BK114⟩;have n4_ : Aside0 ((wr.setCell ⟨gb116,3,none⟩ (.int .i64 ji95)).heap[gb115]?=some (.cells #[.int .i64 0,.int .i64 0,.int .i64 0,.int .i64 0] 52 (0,0))):=⟨zB BK115⟩;have n5_ : Aside0 ((wr.setCell ⟨gb116,3,none⟩ (.int .i64 ji95)).heap[gb116]?=some (.cells #[.int .i64 a0_0,.int .i64 a0_1,.int .i64 a0_2,.int .i64 ji95] 98 (0,0))):=⟨zB BK116⟩;have n6_ : Aside0 ((wr.setCell ⟨gb116,3,none⟩ (.int .i64 ji95)).heap[gb122]?=some (.cells #[.int .i64 a1_0,u123001] 43 (0,0))):=⟨zB BK122⟩;have n7_ : Aside0 (Below w.heap.size w (wr.setCell ⟨gb116,3,none⟩ (.int .i64 ji95))):=⟨zW HB⟩;(try clear HO_123001);(try clear BK112);(try clear BK113);(try clear BK114);(try clear BK115);(try clear BK116);(try clear BK122);(try clear HB);generalize (wr.setCell ⟨gb116,3,none⟩ (.int .i64 ji95))=w102 at n0_ n1_ n2_ n3_ n4_ n5_ n6_ n7_ ⊢;have HO_123001:=n0_;have BK112:=n1_;have BK113:=n2_;have BK114:=n3_;have BK115:=n4_;have BK116:=n5_;have BK122:=n6_;have HB:=n7_;clear n0_ n1_ n2_ n3_ n4_ n5_ n6_ n7_;have n0_:=zo (Kd.R_drew HO_123001.out);have n1_:=zo (blk_drew BK112.out);have n2_:=zo (blk_drew BK113.out);have n3_:=zo (blk_drew BK114.out);have n4_:=zo (blk_drew BK115.out);have n5_:=zo (blk_drew BK116.out);have n6_:=zo (blk_drew BK122.out);have n7_:=zo (below_drew1 HB.out);clear HO_123001;clear BK112;clear BK113;clear BK114;clear BK115;clear BK116;clear BK122;clear HB;have HO_123001:=n0_;have BK112:=n1_;have BK113:=n2_;have BK114:=n3_;have BK115:=n4_;have BK116:=n5_;have BK122:=n6_;have HB:=n7_;clear n0_ n1_ n2_ n3_ n4_ n5_ n6_ n7_;obtain ⟨Ao105,co105,eo105⟩:=Kd.R_slice HO_123001.out;(first|subst eo105|(injection eo105 with f1_ f2_ f3_;have f4_:=f1_.symm;have f5_:=f3_.symm;clear f1_ f2_ f3_;subst f4_;subst f5_));refine start_ (n:=6) (S:=fun w'=>w'.cell? ⟨gb122,0,none⟩=some (.int .i64 a1_0)∧w'.cell? ⟨gb122,1,none⟩=some (.slice Ao105 x123001_2.length co105)∧w'.cell? ⟨gb116,0,none⟩=some (.int .i64 a0_0)∧w'.cell? ⟨gb116,1,none⟩=some (.int .i64 a0_1)∧w'.cell? ⟨gb116,2,none⟩=some (.int .i64 a0_2)∧w'.cell? ⟨gb116,3,none⟩=some (.int .i64 ji95)) (ds:=[]) #[false,false,false,false,false,false] zk rfl rfl ⟨(blk_cell BK122.out 0).trans rfl,(blk_cell BK122.out 1).trans rfl,(blk_cell BK116.out 0).trans rfl,(blk_cell BK116.out 1).trans rfl,(blk_cell BK116.out 2).trans rfl,(blk_cell BK116.out 3).trans rfl⟩ (fun hHeld=>?_);generalize w102.drew=w103 at HO_123001 BK112 BK113 BK114 BK115 BK116 BK122 HB hHeld ⊢;refine pure_ (i:=1) (N:=some 85) (v:=?_) (a':=?_) #[false,true,false,false,false,false] rfl rfl zk (fun _ _ _ h=>h) (Or.inl ⟨by rfl,?_⟩) ?_ ?_;rotate_left
      ·intro w'
       go_simp
       with_reducible rfl
      rotate_left
      ·simp only [Act.put,List.setIfInBounds_toArray,List.set_cons_zero,List.set_cons_succ,i64_w,i32_w];rfl
      refine take_ (i:=0) (N:=some 84) (v:=?_) (a':=?_) #[true,true,false,false,false,false] rfl rfl zk (fun _ _ _ h=>h) (Or.inl ⟨by rfl,?_⟩) hHeld ?_ ?_;rotate_left
      ·rintro w' ⟨s0,s1,s2,s3,s4,s5⟩
       go_simp
       with_reducible rfl
      rotate_left
      ·simp only [Act.put,List.setIfInBounds_toArray,List.set_cons_zero,List.set_cons_succ,i64_w,i32_w];rfl
      refine take_ (i:=2) (N:=some 86) (v:=?_) (a':=?_) #[true,true,true,false,false,false] rfl rfl zk (fun _ _ _ h=>h) (Or.inl ⟨by rfl,?_⟩) hHeld ?_ ?_;rotate_left
      ·rintro w' ⟨s0,s1,s2,s3,s4,s5⟩
       go_simp
       with_reducible rfl
      rotate_left
      ·simp only [Act.put,List.setIfInBounds_toArray,List.set_cons_zero,List.set_cons_succ,i64_w,i32_w];rfl
      refine one_ (i:=3) (N:=none) #[true,true,true,true,false,false] rfl rfl zk (by decide) (fun K hK=>?_);have hs104:=zc BK114 0 (.int .i64 0) rfl;have hfs104:=blk_frozen BK114.out 0;have hns104_0:=NB112_114.out;have hns104_1:=NB113_114.out;have hns104_3:=NB115_114.out;have hns104_4:=NB116_114.out;have hns104_5:=NB122_114.out;have hms104_0:=NB114_112.out;have hms104_1:=NB114_113.out;have hms104_3:=NB114_115.out;have hms104_4:=NB114_116.out;have hms104_5:=NB114_122.out;have hs106:=zc BK114 1 (.slice none 0 0) rfl;have hfs106:=blk_frozen BK114.out 1;have hns106_0:=NB112_114.out;have hns106_1:=NB113_114.out;have hns106_3:=NB115_114.out;have hns106_4:=NB116_114.out;have hns106_5:=NB122_114.out;have hms106_0:=NB114_112.out;have hms106_1:=NB114_113.out;have hms106_3:=NB114_115.out;have hms106_4:=NB114_116.out;have hms106_5:=NB114_122.out;refine skip_ (w1:=?_) (by rfl) rfl ?_ ?_;rotate_left
      ·go_simp
       rfl
      refine hK.out _ _ ⟨((cell_far (p:=⟨gb114,_,none⟩) NB122_114.out _).trans (((cell_far (p:=⟨gb114,_,none⟩) NB122_114.out _).trans (hHeld.1)))),((cell_far (p:=⟨gb114,_,none⟩) NB122_114.out _).trans (((cell_far (p:=⟨gb114,_,none⟩) NB122_114.out _).trans (hHeld.2.1)))),((cell_far (p:=⟨gb114,_,none⟩) NB116_114.out _).trans (((cell_far (p:=⟨gb114,_,none⟩) NB116_114.out _).trans (hHeld.2.2.1)))),((cell_far (p:=⟨gb114,_,none⟩) NB116_114.out _).trans (((cell_far (p:=⟨gb114,_,none⟩) NB116_114.out _).trans (hHeld.2.2.2.1)))),((cell_far (p:=⟨gb114,_,none⟩) NB116_114.out _).trans (((cell_far (p:=⟨gb114,_,none⟩) NB116_114.out _).trans (hHeld.2.2.2.2.1)))),((cell_far (p:=⟨gb114,_,none⟩) NB116_114.out _).trans (((cell_far (p:=⟨gb114,_,none⟩) NB116_114.out _).trans (hHeld.2.2.2.2.2))))⟩ (fun hHeld=>?_);clear hK K;refine one_ (i:=4) (N:=none) #[true,true,true,true,true,false] rfl rfl zk (by decide) (fun K hK=>?_);have hs107:=zc BK115 0 (.int .i64 0) rfl;have hfs107:=blk_frozen BK115.out 0;have hns107_0:=NB112_115.out;have hns107_1:=NB113_115.out;have hns107_2:=NB114_115.out;have hns107_4:=NB116_115.out;have hns107_5:=NB122_115.out;have hms107_0:=NB115_112.out;have hms107_1:=NB115_113.out;have hms107_2:=NB115_114.out;have hms107_4:=NB115_116.out;have hms107_5:=NB115_122.out;have hs108:=zc BK115 1 (.int .i64 0) rfl;have hfs108:=blk_frozen BK115.out 1;have hns108_0:=NB112_115.out;have hns108_1:=NB113_115.out;have hns108_2:=NB114_115.out;have hns108_4:=NB116_115.out;have hns108_5:=NB122_115.out;have hms108_0:=NB115_112.out;have hms108_1:=NB115_113.out;have hms108_2:=NB115_114.out;have hms108_4:=NB115_116.out;have hms108_5:=NB115_122.out;have hs109:=zc BK115 2 (.int .i64 0) rfl;have hfs109:=blk_frozen BK115.out 2;have hns109_0:=NB112_115.out;have hns109_1:=NB113_115.out;have hns109_2:=NB114_115.out;have hns109_4:=NB116_115.out;have hns109_5:=NB122_115.out;have hms109_0:=NB115_112.out;have hms109_1:=NB115_113.out;have hms109_2:=NB115_114.out;have hms109_4:=NB115_116.out;have hms109_5:=NB115_122.out;have hs110:=zc BK115 3 (.int .i64 0) rfl;have hfs110:=blk_frozen BK115.out 3;have hns110_0:=NB112_115.out;have hns110_1:=NB113_115.out;have hns110_2:=NB114_115.out;have hns110_4:=NB116_115.out;have hns110_5:=NB122_115.out;have hms110_0:=NB115_112.out;have hms110_1:=NB115_113.out;have hms110_2:=NB115_114.out;have hms110_4:=NB115_116.out;have hms110_5:=NB115_122.out;refine skip_ (w1:=?_) (by rfl) rfl ?_ ?_;rotate_left
      ·go_simp
       rfl
      refine hK.out _ _ ⟨((cell_far (p:=⟨gb115,_,none⟩) NB122_115.out _).trans (((cell_far (p:=⟨gb115,_,none⟩) NB122_115.out _).trans (((cell_far (p:=⟨gb115,_,none⟩) NB122_115.out _).trans (((cell_far (p:=⟨gb115,_,none⟩) NB122_115.out _).trans (hHeld.1)))))))),((cell_far (p:=⟨gb115,_,none⟩) NB122_115.out _).trans (((cell_far (p:=⟨gb115,_,none⟩) NB122_115.out _).trans (((cell_far (p:=⟨gb115,_,none⟩) NB122_115.out _).trans (((cell_far (p:=⟨gb115,_,none⟩) NB122_115.out _).trans (hHeld.2.1)))))))),((cell_far (p:=⟨gb115,_,none⟩) NB116_115.out _).trans (((cell_far (p:=⟨gb115,_,none⟩) NB116_115.out _).trans (((cell_far (p:=⟨gb115,_,none⟩) NB116_115.out _).trans (((cell_far (p:=⟨gb115,_,none⟩) NB116_115.out _).trans (hHeld.2.2.1)))))))),((cell_far (p:=⟨gb115,_,none⟩) NB116_115.out _).trans (((cell_far (p:=⟨gb115,_,none⟩) NB116_115.out _).trans (((cell_far (p:=⟨gb115,_,none⟩) NB116_115.out _).trans (((cell_far (p:=⟨gb115,_,none⟩) NB116_115.out _).trans (hHeld.2.2.2.1)))))))),((cell_far (p:=⟨gb115,_,none⟩) NB116_115.out _).trans (((cell_far (p:=⟨gb115,_,none⟩) NB116_115.out _).trans (((cell_far (p:=⟨gb115,_,none⟩) NB116_115.out _).trans (((cell_far (p:=⟨gb115,_,none⟩) NB116_115.out _).trans (hHeld.2.2.2.2.1)))))))),((cell_far (p:=⟨gb115,_,none⟩) NB116_115.out _).trans (((cell_far (p:=⟨gb115,_,none⟩) NB116_115.out _).trans (((cell_far (p:=⟨gb115,_,none⟩) NB116_115.out _).trans (((cell_far (p:=⟨gb115,_,none⟩) NB116_115.out _).trans (hHeld.2.2.2.2.2))))))))⟩ (fun hHeld=>?_);clear hK K;refine pure_ (i:=5) (N:=some 6) (v:=?_) (a':=?_) #[true,true,true,true,true,true] rfl rfl zk (fun _ _ _ h=>h) (Or.inl ⟨by rfl,?_⟩) ?_ ?_;rotate_left
      ·intro w'
       go_simp
       with_reducible rfl
      rotate_left
      ·simp only [Act.put,List.setIfInBounds_toArray,List.set_cons_zero,List.set_cons_succ,i64_w,i32_w];rfl
      refine done_ zk ?_
      try go_wp2
      refine bodyPost_ret (results_list (rs:=[.cell 4 43,.cell 5 52,.tmp 6]) rfl (by simp) (.cell gb114 43 #[.int .i64 a1_0,.slice Ao105 x123001_2.length co105] (0,0) _ rfl (zB BK114) Try.underlying43 rfl zk (.cell gb115 52 #[.int .i64 a0_0,.int .i64 a0_1,.int .i64 a0_2,.int .i64 ji95] (0,0) _ rfl (zB BK115) Try.underlying52 rfl zk (.tmp .nil)))) rfl ?_;exact ⟨_,by first|rfl|(simp [errW_none,errW_some] <;> rfl)|(simp only [← hji95];first|rfl|(simp [errW_none,errW_some] <;> rfl))|(simp [*,errW_none,errW_some] <;> rfl),by (with_reducible repeat (first|apply Kd.R_alloc|apply Kd.R_drewN|apply Kd.R_drew));exact Kd.R_mono (Kd.R_far (p:=⟨gb115,3,none⟩) (Kd.R_far (p:=⟨gb115,2,none⟩) (Kd.R_far (p:=⟨gb115,1,none⟩) (Kd.R_far (p:=⟨gb115,0,none⟩) (Kd.R_far (p:=⟨gb114,1,none⟩) (Kd.R_far (p:=⟨gb114,0,none⟩) (Kd.R_types (Kd.R_types HO_123001.out BK114.out (by decide)) BK115.out (by decide)) (fun _ hk=>hk.1.2) (.int .i64 a1_0)) (fun _ hk=>hk.1.2) (.slice Ao105 x123001_2.length co105)) (fun _ hk=>hk.2) (.int .i64 a0_0)) (fun _ hk=>hk.2) (.int .i64 a0_1)) (fun _ hk=>hk.2) (.int .i64 a0_2)) (fun _ hk=>hk.2) (.int .i64 ji95)) (fun _ hk=>trivial),zW HB⟩
     rw [if_pos c66] at H;have c66b0:=decide_eq_true c66;clear c66;replace H:=Option.bind_eq_some_iff.mp H;obtain ⟨t123,A670,H⟩:=H
     try dsimp only at H
     have A67:=zo A670;clear A670;obtain ⟨ji68,hji68⟩ : ∃ j_ : Int,(wrap64 (x40_2*a1_0))=j_:=⟨_,rfl⟩;(first|rw [hji68] at H|simp only [hji68] at H);(try rw [hji68] at A67);have hji68w : (IntKind.i64.wrap (x40_2*a1_0))=ji68:=(i64_w _).trans hji68
     by_cases c69 : 0≤(ji68)
     rotate_left
     ·rw [if_neg c69] at H;exact absurd H (by simp)
     rw [if_pos c69] at H;have c69b0:=eq_true c69;have c69b1:=decide_eq_true c69;clear c69
     by_cases c70 : (ji68)≤(wrap64 ((wrap64 (x40_2+1))*a1_0))
     rotate_left
     ·rw [if_neg c70] at H;exact absurd H (by simp)
     rw [if_pos c70] at H;have c70b0:=eq_true c70;have c70b1 : decide ((ji68)≤(wrap64 ((wrap64 (x40_2+1))*a1_0)))=true:=decide_eq_true c70
     by_cases c71 : (wrap64 ((wrap64 (x40_2+1))*a1_0))≤(l1_1.length : Int)
     rotate_left
     ·rw [if_neg c71] at H;exact absurd H (by simp)
     rw [if_pos c71] at H;have c71b0:=eq_true c71;have c71b1 : decide ((wrap64 ((wrap64 (x40_2+1))*a1_0))≤(l1_1.length : Int))=true:=decide_eq_true c71;have H':=zo H;clear H;have hnb72:=NB116_112.out;have hnc72:=NB112_116.out;have hnb73:=NB116_113.out;have hnc73:=NB113_116.out;have hnb74:=NB116_114.out;have hnc74:=NB114_116.out;have hnb75:=NB116_115.out;have hnc75:=NB115_116.out;have hnb76:=NB116_122.out;have hnc76:=NB122_116.out;obtain ⟨hcz77_0,hfz77_0,hcz77_1,hfz77_1,hcz77_2,hfz77_2,hcz77_3,hfz77_3⟩:=zn4 BK116
     go_wp2_with (first|((with_reducible refine gate_callee (f:=63) rfl ?_);refine goesL_ (some 45) rfl rfl Try.func63 zk rfl #[.agg #[.int .i64 a0_0,.int .i64 a0_1,.int .i64 a0_2,.int .i64 a0_3],.int .i64 x40_2] rfl zA ?_;(with_reducible refine (gain_slope_gain.calls a0_0 a0_1 a0_2 a0_3 x40_2 t123 _ A67.out).mono ?_);rintro e w78 ⟨rfl,hb⟩;refine ⟨_,rfl,?_⟩;replace HO_123001:=zo (Kd.R_below (zR HO_123001) hb);replace BK112:=zo (blk_below (zB BK112) hb);replace BK113:=zo (blk_below (zB BK113) hb);replace BK114:=zo (blk_below (zB BK114) hb);replace BK115:=zo (blk_below (zB BK115) hb);replace BK116:=zo (blk_below (zB BK116) hb);replace BK122:=zo (blk_below (zB BK122) hb);replace HB:=zo (below_step (zW HB) hb);(try clear hb);have hnb79:=NB113_112.out;have hnc79:=NB112_113.out;have hnb80:=NB113_114.out;have hnc80:=NB114_113.out;have hnb81:=NB113_115.out;have hnc81:=NB115_113.out;have hnb82:=NB113_122.out;have hnc82:=NB122_113.out;obtain ⟨hcz83_0,hfz83_0,hcz83_1,hfz83_1⟩:=zn2 BK113;obtain ⟨i084,hi084,_,hsz84,_⟩:=info_parts info21;obtain ⟨A84,hcut84,hA84,hC84⟩:=print_mid_of (P:=Try.prog) (Value.int .i32) 0 41 21 .i64 .i64 Try.underlying41 hi084 hsz84 A1_1 c1_1 l1_1 (ji68) (wrap64 ((wrap64 (x40_2+1))*a1_0)) (zD) (by first|omega|exact zD) (zD) HC1_1.out;have HR124:=zo (Kd.C_of_reads (h1:=fun _=>rfl) (hA84 _ (Kd.reads_of_C HR1_1.out)));have HC124:=zo hC84;clear hA84 hC84 hi084 hsz84;have HSL84:=zo (show ((l1_1.take ((wrap64 ((wrap64 (x40_2+1))*a1_0)) : Int).toNat).drop ((ji68) : Int).toNat).length=((wrap64 ((wrap64 (x40_2+1))*a1_0)).toNat - (ji68).toNat) from (by rw [List.length_drop,List.length_take];have h_ : ((wrap64 ((wrap64 (x40_2+1))*a1_0)) : Int)≤(l1_1.length : Int):=zD;omega))))
     go_loopg [59] k2 (fun kq v59 w'=>∃ (x59_3 : Int) (x123001_3 : List Int) (u123001 : Value),v59 = .int .i64 x59_3∧Aside0 (gain_Run.l1 kq (wrap64 ((l1_1.length : Int) / a1_0)) t123 (wrap64 ((l1_1.length : Int) / a1_0)) x40_2 ((l1_1.take ((wrap64 ((wrap64 (x40_2+1))*a1_0)) : Int).toNat).drop ((ji68) : Int).toNat) (((l1_1.take ((wrap64 ((wrap64 (x40_2+1))*a1_0)) : Int).toNat).drop ((ji68) : Int).toNat).length : Int) x59_3 a1_0 l1_1 a0_0 a0_1 a0_2 a0_3 a1_0 x123001_3=some (r1,r2,r3,r4,r5,r6,r7))∧Aside0 (kq≤k2)∧Aside0 (Kd.R (Kd.int .i32) 21 w' w.heap.size (fun _=>True) u123001 x123001_3)∧Aside0 (w'.heap[gb112]?=some (.cells #[.int .i64 a0_0,.int .i64 a0_1,.int .i64 a0_2,.int .i64 a0_3] 52 (0,0)))∧Aside0 (w'.heap[gb113]?=some (.cells #[.int .i64 a1_0,(.slice A1_1 l1_1.length c1_1)] 43 (0,0)))∧Aside0 (w'.heap[gb114]?=some (.cells #[.int .i64 0,(.slice none 0 0)] 43 (0,0)))∧Aside0 (w'.heap[gb115]?=some (.cells #[.int .i64 0,.int .i64 0,.int .i64 0,.int .i64 0] 52 (0,0)))∧Aside0 (w'.heap[gb116]?=some (.cells #[.int .i64 a0_0,.int .i64 a0_1,.int .i64 a0_2,.int .i64 a0_3] 98 (0,0)))∧Aside0 (w'.heap[gb122]?=some (.cells #[.int .i64 a1_0,u123001] 43 (0,0)))∧Aside0 (Below w.heap.size w w'))
     case atStart=>exact ⟨(0),(x123001_2),(u123001),zE,H',⟨Nat.le_refl _⟩,⟨zR HO_123001⟩,⟨zB BK112⟩,⟨zB BK113⟩,⟨zB BK114⟩,⟨zB BK115⟩,⟨zB BK116⟩,⟨zB BK122⟩,⟨zW HB⟩⟩
     case round=>
      clear H'
      try clear c1
      try clear c2
      try clear p2
      try clear c3
      try clear c4
      try clear c5
      try clear c6
      try clear p6
      try clear c7
      try clear c8
      try clear c9
      try clear c10
      try clear c13
      try clear c14
      try clear c15
      try clear c16
      try clear c19
      try clear c21
      try clear c22
      try clear c23
      try clear c24
      try clear c27
      try clear c28
      try clear c29
      try clear c32
      try clear c33
      try clear c34
      try clear c35
      try clear c38
      try clear c39
      try clear c40
      try clear c41
      try clear c42
      try clear c44
      try clear c45
      try clear c46
      try clear c48
      try clear c48b0
      try clear c48b1
      try clear c49
      try clear c49b0
      try clear c49b1
      try clear c50
      try clear c50b0
      try clear c50b1
      try clear c60
      try clear c61
      try clear c62
      try clear c63
      try clear c64
      try clear p64
      try clear c66
      try clear c66b0
      try clear c69
      try clear c69b0
      try clear c69b1
      try clear c70
      try clear c70b0
      try clear c70b1
      try clear c71
      try clear c71b0
      try clear c71b1
      try clear c72
      try clear c73
      try clear c74
      try clear c75
      try clear c76
      try clear c79
      try clear c80
      try clear c81
      try clear c82
      try clear p2
      try clear p6
      try clear p64
      obtain ⟨x59_3,x123001_3,u123001,rfl,HA,HK3,HO_123001,BK112,BK113,BK114,BK115,BK116,BK122,HB⟩:=hrel
      cases gk with
      | zero=>exact absurd HA.out (by simp [gain_Run.l1])
      | succ k3=>
       have H:=HA.out;clear HA;simp only [gain_Run.l1] at H
       by_cases c85 : x59_3<(((l1_1.take ((wrap64 ((wrap64 (x40_2+1))*a1_0)) : Int).toNat).drop ((ji68) : Int).toNat).length : Int)
       rotate_left
       ·rw [if_neg c85] at H;have c85b0 : decide (x59_3<(((l1_1.take ((wrap64 ((wrap64 (x40_2+1))*a1_0)) : Int).toNat).drop ((ji68) : Int).toNat).length : Int))=false:=decide_eq_false c85;(try (have c85b1 : decide (x59_3<((((wrap64 ((wrap64 (x40_2+1))*a1_0)).toNat - (ji68).toNat) : Nat) : Int))=false:=by rw [← show ((l1_1.take ((wrap64 ((wrap64 (x40_2+1))*a1_0)) : Int).toNat).drop ((ji68) : Int).toNat).length=((wrap64 ((wrap64 (x40_2+1))*a1_0)).toNat - (ji68).toNat) from HSL84.out];exact decide_eq_false c85));clear c85;have H':=zo H;clear H
        go_wp2
        go_roundg k3
        case measure=>have:=HJ2.out;have:=HK2.out;have:=HK3.out;omega
        case rel=>exact ⟨(wrap64 (x40_2+1)),(x123001_3),(u123001),zE,H',⟨by have:=HJ2.out;have:=HK2.out;have:=HK3.out;omega⟩,⟨zR HO_123001⟩,⟨zB BK112⟩,⟨zB BK113⟩,⟨zB BK114⟩,⟨zB BK115⟩,⟨zB BK116⟩,⟨zB BK122⟩,⟨zW HB⟩⟩
       rw [if_pos c85] at H;have c85b0 : decide (x59_3<(((l1_1.take ((wrap64 ((wrap64 (x40_2+1))*a1_0)) : Int).toNat).drop ((ji68) : Int).toNat).length : Int))=true:=decide_eq_true c85;(try (have c85b1 : decide (x59_3<((((wrap64 ((wrap64 (x40_2+1))*a1_0)).toNat - (ji68).toNat) : Nat) : Int))=true:=by rw [← show ((l1_1.take ((wrap64 ((wrap64 (x40_2+1))*a1_0)) : Int).toNat).drop ((ji68) : Int).toNat).length=((wrap64 ((wrap64 (x40_2+1))*a1_0)).toNat - (ji68).toNat) from HSL84.out];exact decide_eq_true c85));clear c85
       by_cases c86 : 0≤x59_3
       rotate_left
       ·rw [if_neg c86] at H;exact absurd H (by simp)
       rw [if_pos c86] at H;have c86b0:=decide_eq_true c86;clear c86
       by_cases c87 : x59_3<(((l1_1.take ((wrap64 ((wrap64 (x40_2+1))*a1_0)) : Int).toNat).drop ((ji68) : Int).toNat).length : Int)
       rotate_left
       ·rw [if_neg c87] at H;exact absurd H (by simp)
       rw [if_pos c87] at H;have c87b0 : decide (x59_3<(((l1_1.take ((wrap64 ((wrap64 (x40_2+1))*a1_0)) : Int).toNat).drop ((ji68) : Int).toNat).length : Int))=true:=decide_eq_true c87;(try (have c87b1 : decide (x59_3<((((wrap64 ((wrap64 (x40_2+1))*a1_0)).toNat - (ji68).toNat) : Nat) : Int))=true:=by rw [← show ((l1_1.take ((wrap64 ((wrap64 (x40_2+1))*a1_0)) : Int).toNat).drop ((ji68) : Int).toNat).length=((wrap64 ((wrap64 (x40_2+1))*a1_0)).toNat - (ji68).toNat) from HSL84.out];exact decide_eq_true c87));clear c87;replace H:=Option.bind_eq_some_iff.mp H;obtain ⟨t126,A880,H⟩:=H
       try dsimp only at H
       have A88:=zo A880;clear A880
       by_cases c89 : x123001_3.length<35184372088832
       rotate_left
       ·rw [if_neg c89] at H;exact absurd H (by simp)
       rw [if_pos c89] at H;have LMc89:=zo c89;clear c89;obtain ⟨y127,hy127⟩ : ∃ y_ : List Int,y_=(x123001_3 ++ [t126]):=⟨_,rfl⟩;replace H : (gain_Run.l1 k3 (wrap64 ((l1_1.length : Int) / a1_0)) t123 (wrap64 ((l1_1.length : Int) / a1_0)) x40_2 ((l1_1.take ((wrap64 ((wrap64 (x40_2+1))*a1_0)) : Int).toNat).drop ((ji68) : Int).toNat) (((l1_1.take ((wrap64 ((wrap64 (x40_2+1))*a1_0)) : Int).toNat).drop ((ji68) : Int).toNat).length : Int) (wrap64 (x59_3+1)) a1_0 l1_1 a0_0 a0_1 a0_2 a0_3 a1_0 y127)=some (r1,r2,r3,r4,r5,r6,r7):=by first|(rw [hy127];with_reducible exact H)|(have H2_:=(Option.bind_some _ _).symm.trans H;rw [hy127];with_reducible exact H2_)|(have H2_:=(Option.bind_some _ _).symm.trans H;with_reducible exact H2_)|with_reducible exact H|(rw [hy127];exact H)|exact H
       have Ny127:=zo hy127;clear hy127;have H':=zo H;clear H;have p125 : 0≤(x59_3 : Int):=zD;have q125 : x59_3<(((l1_1.take ((wrap64 ((wrap64 (x40_2+1))*a1_0)) : Int).toNat).drop ((ji68) : Int).toNat).length : Int):=zD;(try have qh125 : ((x59_3 : Int)<((((wrap64 ((wrap64 (x40_2+1))*a1_0)).toNat - (ji68).toNat) : Nat) : Int))=True:=eq_true (by rw [← show ((l1_1.take ((wrap64 ((wrap64 (x40_2+1))*a1_0)) : Int).toNat).drop ((ji68) : Int).toNat).length=((wrap64 ((wrap64 (x40_2+1))*a1_0)).toNat - (ji68).toNat) from HSL84.out];exact q125));obtain ⟨ad125,e125,hx125_0⟩:=Kd.at_int HR124.out x59_3 p125 q125
       cases e125
       (try (replace hx125_0:=(HB.out.cell (World.block_lt_of_cell? w _ hx125_0)).trans hx125_0));replace p125:=eq_true p125;replace q125:=eq_true q125
       try go_wp2
       have n0_:=zo (Kd.R_drew HO_123001.out);have n1_:=zo (blk_drew BK112.out);have n2_:=zo (blk_drew BK113.out);have n3_:=zo (blk_drew BK114.out);have n4_:=zo (blk_drew BK115.out);have n5_:=zo (blk_drew BK116.out);have n6_:=zo (blk_drew BK122.out);have n7_:=zo (below_drew1 HB.out);clear HO_123001;clear BK112;clear BK113;clear BK114;clear BK115;clear BK116;clear BK122;clear HB;have HO_123001:=n0_;have BK112:=n1_;have BK113:=n2_;have BK114:=n3_;have BK115:=n4_;have BK116:=n5_;have BK122:=n6_;have HB:=n7_;clear n0_ n1_ n2_ n3_ n4_ n5_ n6_ n7_;refine start_ (n:=9) (S:=fun w'=>w'.cell? ⟨gb122,0,none⟩=some (.int .i64 a1_0)∧w'.cell? ⟨gb122,1,none⟩=some (u123001)) (ds:=[8]) #[false,false,false,false,false,false,false,false,false] zk rfl rfl ⟨(blk_cell BK122.out 0).trans rfl,(blk_cell BK122.out 1).trans rfl⟩ (fun hHeld=>?_);refine with_tabW gain_Run.tab13 gain_Run.bits13 (fun HT_ HW_=>?_);generalize wr.drew=w90 at HO_123001 BK112 BK113 BK114 BK115 BK116 BK122 HB hHeld ⊢;refine pure_ (i:=0) (N:=some 63) (v:=?_) (a':=?_) #[true,false,false,false,false,false,false,false,false] rfl rfl (any_of HT_.out zk) (fun _ _ _ h=>h) (Or.inl ⟨by rfl,?_⟩) ?_ ?_;rotate_left
       ·intro w'
        go_simp
        with_reducible rfl
       rotate_left
       ·simp only [Act.put,List.setIfInBounds_toArray,List.set_cons_zero,List.set_cons_succ,i64_w,i32_w];rfl
       refine pure_ (i:=2) (N:=some 65) (v:=?_) (a':=?_) #[true,false,true,false,false,false,false,false,false] rfl rfl (any_of HT_.out zk) (fun _ _ _ h=>h) (Or.inl ⟨by rfl,?_⟩) ?_ ?_;rotate_left
       ·intro w'
        go_simp
        with_reducible rfl
       rotate_left
       ·simp only [Act.put,List.setIfInBounds_toArray,List.set_cons_zero,List.set_cons_succ,i64_w,i32_w];rfl
       refine pure_ (i:=3) (N:=some 66) (v:=?_) (a':=?_) #[true,false,true,true,false,false,false,false,false] rfl rfl (any_of HT_.out zk) (fun _ _ _ h=>h) (Or.inl ⟨by rfl,?_⟩) ?_ ?_;rotate_left
       ·intro w'
        go_simp
        with_reducible rfl
       rotate_left
       ·simp only [Act.put,List.setIfInBounds_toArray,List.set_cons_zero,List.set_cons_succ,i64_w,i32_w];rfl
       refine take_ (i:=1) (N:=some 64) (v:=?_) (a':=?_) #[true,true,true,true,false,false,false,false,false] rfl rfl (take_ofW HT_.out HW_.out zk) (fun _ _ _ h=>h) (Or.inl ⟨by rfl,?_⟩) hHeld ?_ ?_;rotate_left
       ·rintro w' ⟨s0,s1⟩
        go_simp
        with_reducible rfl
       rotate_left
       ·simp only [Act.put,List.setIfInBounds_toArray,List.set_cons_zero,List.set_cons_succ,i64_w,i32_w];rfl
       refine one_ (i:=4) (N:=some 67) #[true,true,true,true,true,false,false,false,false] rfl rfl (one_of HT_.out zk) (by decide) (fun K hK=>?_);refine goes_ Try.func64 zk rfl #[.int .i32 (rd ((l1_1.take ((wrap64 ((wrap64 (x40_2+1))*a1_0)) : Int).toNat).drop ((ji68) : Int).toNat) x59_3),.int .i64 t123] (by rfl) rfl rfl (by (try simp only [List.map_toArray,List.map_cons,List.map_nil]);first|done|(simp only [hji68];rfl)|rfl|(simp only [List.length_drop,List.length_take];rfl)) ?_
       with_reducible refine (gain_Apply.calls (rd ((l1_1.take ((wrap64 ((wrap64 (x40_2+1))*a1_0)) : Int).toNat).drop ((ji68) : Int).toNat) x59_3) t123 t126 _ A88.out).mono ?_
       rintro e w91 ⟨rfl,hb⟩;refine ⟨_,rfl,?_⟩;have n0_:=zo (Kd.R_below (zR HO_123001) hb);have n1_:=zo (blk_below (zB BK112) hb);have n2_:=zo (blk_below (zB BK113) hb);have n3_:=zo (blk_below (zB BK114) hb);have n4_:=zo (blk_below (zB BK115) hb);have n5_:=zo (blk_below (zB BK116) hb);have n6_:=zo (blk_below (zB BK122) hb);have n7_:=zo (below_step (zW HB) hb);clear HO_123001;clear BK112;clear BK113;clear BK114;clear BK115;clear BK116;clear BK122;clear HB;have HO_123001:=n0_;have BK112:=n1_;have BK113:=n2_;have BK114:=n3_;have BK115:=n4_;have BK116:=n5_;have BK122:=n6_;have HB:=n7_;clear n0_ n1_ n2_ n3_ n4_ n5_ n6_ n7_;(try clear hb);(try clear hb2);(try clear hk);(try clear hi);(try clear hgw);refine hK.out _ _ ⟨(blk_cell BK122.out 0).trans rfl,(blk_cell BK122.out 1).trans rfl⟩ (fun hHeld=>?_);clear hK K;refine norm_ (a':=?_) ?_ ?_;rotate_left
       ·show Act.put _ (some 67) _=_
        simp only [Act.put,List.setIfInBounds_toArray,List.set_cons_zero,List.set_cons_succ,i64_w,i32_w];rfl
       refine one_ (i:=5) (N:=some 68) #[true,true,true,true,true,true,false,false,false] rfl rfl (one_of HT_.out zk) (by decide) (fun K hK=>?_);refine value_ (w1:=?_) (v:=?_) (by rfl) rfl ?_ ?_;rotate_left 2
       ·go_simp
        constructor
        ·rfl
        ·rfl
       refine hK.out _ _ ⟨(blk_cell (blk_alloc BK122.out _) 0).trans rfl,(blk_cell (blk_alloc BK122.out _) 1).trans rfl⟩ (fun hHeld=>?_);clear hK K;refine norm_ (a':=?_) ?_ ?_;rotate_left
       ·show Act.put _ (some 68) _=_
        simp only [Act.put,List.setIfInBounds_toArray,List.set_cons_zero,List.set_cons_succ,i64_w,i32_w];rfl
       refine one_ (i:=6) (N:=some 69) #[true,true,true,true,true,true,true,false,false] rfl rfl (one_of HT_.out zk) (by decide) (fun K hK=>?_);refine Kd.R_append_step (Kd.int .i32) (w0:=w) w.heap.size (by rfl) (.tmp 64) (.tmp 68) 41 21 (.int .i32 0) 4 rfl Try.underlying41 info21 rfl (by decide) (by omega) u123001 x123001_3 t126 [.int .i32 t126] (fun _=>True) (fun _=>False) rfl rfl ?aP (fun _ hk=>hk.elim) ?aF ?aO ?aB ?aS ?aL ?_;(case aP=>exact rfl);(case aB=>exact (zW HB));(case aF=>exact (fun _ _=>trivial));(case aO=>exact (zR HO_123001));(case aS=>exact (below_size (zW HB)));(case aL=>have:=LMc89.out;omega);intro v128 w92 ho hb hg hat;rw [← Ny127.out] at ho;have n0_:=zo (blk_grown (zB BK112) hg (Kd.R_ne HO_123001.out BK112.out (by decide)));have n1_:=zo (blk_grown (zB BK113) hg (Kd.R_ne HO_123001.out BK113.out (by decide)));have n2_:=zo (blk_grown (zB BK114) hg (Kd.R_ne HO_123001.out BK114.out (by decide)));have n3_:=zo (blk_grown (zB BK115) hg (Kd.R_ne HO_123001.out BK115.out (by decide)));have n4_:=zo (blk_grown (zB BK116) hg (Kd.R_ne HO_123001.out BK116.out (by decide)));have n5_:=zo (blk_grown (zB BK122) hg (Kd.R_ne HO_123001.out BK122.out (by decide)));have n6_:=zo hb;have n7_:=zo ho;clear BK112;clear BK113;clear BK114;clear BK115;clear BK116;clear BK122;clear HB;clear HO_123001;have BK112:=n0_;have BK113:=n1_;have BK114:=n2_;have BK115:=n3_;have BK116:=n4_;have BK122:=n5_;have HB:=n6_;have HO129:=n7_;clear n0_ n1_ n2_ n3_ n4_ n5_ n6_ n7_;clear ho hb hg hat;obtain ⟨Ao93,co93,eo93⟩:=Kd.R_slice HO129.out;(first|subst eo93|(injection eo93 with f1_ f2_ f3_;have f4_:=f1_.symm;have f5_:=f3_.symm;clear f1_ f2_ f3_;subst f4_;subst f5_));refine hK.out _ _ ⟨(blk_cell BK122.out 0).trans rfl,(blk_cell BK122.out 1).trans rfl⟩ (fun hHeld=>?_);clear hK K;refine norm_ (a':=?_) ?_ ?_;rotate_left
       ·show Act.put _ (some 69) _=_
        simp only [Act.put,List.setIfInBounds_toArray,List.set_cons_zero,List.set_cons_succ,i64_w,i32_w];rfl
       refine pure_ (i:=7) (N:=some 70) (v:=?_) (a':=?_) #[true,true,true,true,true,true,true,true,false] rfl rfl (any_of HT_.out zk) (fun _ _ _ h=>h) (Or.inl ⟨by rfl,?_⟩) ?_ ?_;rotate_left
       ·intro w'
        go_simp
        with_reducible rfl
       rotate_left
       ·simp only [Act.put,List.setIfInBounds_toArray,List.set_cons_zero,List.set_cons_succ,i64_w,i32_w];rfl
       refine last_ (i:=8) (N:=none) #[true,true,true,true,true,true,true,true,true] rfl rfl (one_of HT_.out zk) (by decide) (fun K hK=>?_);have hs94:=zc BK122 1 (u123001) rfl;have hfs94:=blk_frozen BK122.out 1;have hns94_0:=NB112_122.out;have hns94_1:=NB113_122.out;have hns94_2:=NB114_122.out;have hns94_3:=NB115_122.out;have hns94_4:=NB116_122.out;have hms94_0:=NB122_112.out;have hms94_1:=NB122_113.out;have hms94_2:=NB122_114.out;have hms94_3:=NB122_115.out;have hms94_4:=NB122_116.out;refine skip_ (w1:=?_) (by rfl) rfl ?_ ?_;rotate_left
       ·go_simp
        rfl
       refine hK.out _ _ ?_;clear hK K;refine done_ (done_of HT_.out zk) ?_
       try go_wp2
       go_roundg k3
       case measure=>have:=HJ2.out;have:=HK2.out;have:=HK3.out;omega
       case rel=>exact ⟨(wrap64 (x59_3+1)),(y127),(.slice Ao93 y127.length co93),zE,H',⟨by have:=HJ2.out;have:=HK2.out;have:=HK3.out;omega⟩,⟨by (with_reducible repeat (first|apply Kd.R_alloc|apply Kd.R_drewN|apply Kd.R_drew));exact Kd.R_mono (Kd.R_far (p:=⟨gb122,1,none⟩) (Kd.R_types HO129.out BK122.out (by decide)) (fun _ hk=>hk.2) (.slice Ao93 y127.length co93)) (fun _ hk=>trivial)⟩,⟨zB BK112⟩,⟨zB BK113⟩,⟨zB BK114⟩,⟨zB BK115⟩,⟨zB BK116⟩,⟨zB BK122⟩,⟨zW HB⟩⟩

end Go.Proofs.Ytcnmemcclhahnaa.QT
