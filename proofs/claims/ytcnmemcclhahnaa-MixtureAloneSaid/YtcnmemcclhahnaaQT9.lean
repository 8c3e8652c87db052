-- Written by a program of this session, out of the seat's translation; checked by the kernel alone.
import Derived.Test.YtcnmemcclhahnaaQT0
import Derived.Test.YtcnmemcclhahnaaQT7
import Derived.Test.YtcnmemcclhahnaaQT8
namespace Go.Proofs.Ytcnmemcclhahnaa.QT
open Go.RowKit Go.Proofs.YtcnmemcclhahnaaW.PrintWords Go.Proofs.YtcnmemcclhahnaaW.PrintLast Go.Proofs.YtcnmemcclhahnaaW.PrintMore
attribute [local go_sem] max2_int min2_int max_two min_two max_three min_three max_four min_four   -- for this text's walks alone
set_option linter.unusedVariables false
set_option linter.unusedSimpArgs false

mutual
def limiter_Run.j0 : Nat→Int→List Int→Bool→Int→Int→Int→Option (Int×List Int×Int×Int×Int×Int)
 | 0,_,_,_,_,_,_=>none
 | k+1,x1,x2,x38,x232000,x232001,x232002=>if x38=true then (some (0,([] : List Int),0,0,0,2)) else (limiter_Run.l0 k x1 x2 x2 (x2.length : Int) 0 x232000 x232001 x232002)
def limiter_Run.l0 : Nat→Int→List Int→List Int→Int→Int→Int→Int→Int→Option (Int×List Int×Int×Int×Int×Int)
 | 0,_,_,_,_,_,_,_,_=>none
 | k+1,x1,x2,x41,x42,x43,x232000,x232001,x232002=>if x43<x42 then (if 0≤x43 then (if x43<(x41.length : Int) then (if (rd x41 x43)<(-1099511627776) then (some (0,([] : List Int),0,0,0,2)) else (if (rd x41 x43)>1099511627776 then (some (0,([] : List Int),0,0,0,2)) else (limiter_Run.l0 k x1 x2 x41 x42 (wrap64 (x43+1)) x232000 x232001 x232002))) else (none)) else (none)) else (limiter_Run.l1 k x1 x2 0 x232000 x232001 x232002 x1 ([] : List Int))
def limiter_Run.l1 : Nat→Int→List Int→Int→Int→Int→Int→Int→List Int→Option (Int×List Int×Int×Int×Int×Int)
 | 0,_,_,_,_,_,_,_,_=>none
 | k+1,x1,x2,x13,x232000,x232001,x232002,x237000,x237001=>if x13<(x2.length : Int) then (if 0≤x13 then (if x13≤(wrap64 (x13+x1)) then (if (wrap64 (x13+x1))≤(x2.length : Int) then ((limiter_Run_1.f k ((x2.take ((wrap64 (x13+x1)) : Int).toNat).drop (x13 : Int).toNat) x232000 x232001 x232002 x237000 x237001).bind fun bt238=>(limiter_Run.l1 k x1 x2 (wrap64 (x13+x1)) bt238.1 bt238.2.1 bt238.2.2.1 bt238.2.2.2.1 bt238.2.2.2.2)) else (none)) else (none)) else (none)) else (some (x237000,x237001,x232000,x232001,x232002,0))
end
def limiter_Run.f (k : Nat) (a0_0 : Int) (a0_1 : Int) (a0_2 : Int) (a1 : Int) (l2 : List Int) : Option (Int×List Int×Int×Int×Int×Int):=(limiter_Valid.f a0_0 a0_1 a0_2).bind fun t234=>(if t234=true then (if a1<1 then (limiter_Run.j0 k a1 l2 true a0_0 a0_1 a0_2) else (if a1>8 then (limiter_Run.j0 k a1 l2 true a0_0 a0_1 a0_2) else (if a1=0 then (none) else (if ((l2.length : Int) % a1)=0 then (limiter_Run.j0 k a1 l2 (decide ((wrap64 ((l2.length : Int) / a1))>65536)) a0_0 a0_1 a0_2) else (limiter_Run.j0 k a1 l2 true a0_0 a0_1 a0_2))))) else (some (0,([] : List Int),0,0,0,1)))
theorem limiter_Run.mono_l : ∀ k,(∀ y0 y1 y2 y3 y4 y5,LeO (limiter_Run.j0 k y0 y1 y2 y3 y4 y5) (limiter_Run.j0 (k+1) y0 y1 y2 y3 y4 y5))∧(∀ y0 y1 y2 y3 y4 y5 y6 y7,LeO (limiter_Run.l0 k y0 y1 y2 y3 y4 y5 y6 y7) (limiter_Run.l0 (k+1) y0 y1 y2 y3 y4 y5 y6 y7))∧(∀ y0 y1 y2 y3 y4 y5 y6 y7,LeO (limiter_Run.l1 k y0 y1 y2 y3 y4 y5 y6 y7) (limiter_Run.l1 (k+1) y0 y1 y2 y3 y4 y5 y6 y7))
 | 0=>⟨fun _ _ _ _ _ _ r h=>by simp [limiter_Run.j0] at h,fun _ _ _ _ _ _ _ _ r h=>by simp [limiter_Run.l0] at h,fun _ _ _ _ _ _ _ _ r h=>by simp [limiter_Run.l1] at h⟩
 | k+1=>by
  obtain ⟨ih0,ih1,ih2⟩:=limiter_Run.mono_l k;refine ⟨?_,?_,?_⟩
  ·intro y0 y1 y2 y3 y4 y5;unfold limiter_Run.j0
   repeat' first
   | (with_reducible exact ih0 _ _ _ _ _ _)
   | (with_reducible exact ih1 _ _ _ _ _ _ _ _)
   | (with_reducible exact ih2 _ _ _ _ _ _ _ _)
   | (with_reducible exact limiter_Run_1.mono _ _ _ _ _ _ _)
   | (with_reducible exact LeO.refl _)
   | (with_reducible exact LeO.none _)
   | (with_reducible refine LeO.ite ?_ ?_)
   | (with_reducible refine LeO.bind ?_ (fun _=>?_))
   | exact ih0 _ _ _ _ _ _
   | exact ih1 _ _ _ _ _ _ _ _
   | exact ih2 _ _ _ _ _ _ _ _
   | exact limiter_Run_1.mono _ _ _ _ _ _ _
   | exact LeO.none _
   | refine LeO.ite ?_ ?_
   | refine LeO.bind ?_ (fun _=>?_)
  ·intro y0 y1 y2 y3 y4 y5 y6 y7;unfold limiter_Run.l0
   repeat' first
   | (with_reducible exact ih0 _ _ _ _ _ _)
   | (with_reducible exact ih1 _ _ _ _ _ _ _ _)
   | (with_reducible exact ih2 _ _ _ _ _ _ _ _)
   | (with_reducible exact limiter_Run_1.mono _ _ _ _ _ _ _)
   | (with_reducible exact LeO.refl _)
   | (with_reducible exact LeO.none _)
   | (with_reducible refine LeO.ite ?_ ?_)
   | (with_reducible refine LeO.bind ?_ (fun _=>?_))
   | exact ih0 _ _ _ _ _ _
   | exact ih1 _ _ _ _ _ _ _ _
   | exact ih2 _ _ _ _ _ _ _ _
   | exact limiter_Run_1.mono _ _ _ _ _ _ _
   | exact LeO.none _
   | refine LeO.ite ?_ ?_
   | refine LeO.bind ?_ (fun _=>?_)
  ·intro y0 y1 y2 y3 y4 y5 y6 y7;unfold limiter_Run.l1
   repeat' first
   | (with_reducible exact ih0 _ _ _ _ _ _)
   | (with_reducible exact ih1 _ _ _ _ _ _ _ _)
   | (with_reducible exact ih2 _ _ _ _ _ _ _ _)
   | (with_reducible exact limiter_Run_1.mono _ _ _ _ _ _ _)
   | (with_reducible exact LeO.refl _)
   | (with_reducible exact LeO.none _)
   | (with_reducible refine LeO.ite ?_ ?_)
   | (with_reducible refine LeO.bind ?_ (fun _=>?_))
   | exact ih0 _ _ _ _ _ _
   | exact ih1 _ _ _ _ _ _ _ _
   | exact ih2 _ _ _ _ _ _ _ _
   | exact limiter_Run_1.mono _ _ _ _ _ _ _
   | exact LeO.none _
   | refine LeO.ite ?_ ?_
   | refine LeO.bind ?_ (fun _=>?_)
theorem limiter_Run.mono : ∀ a0 a1 a2 a3 a4 k,LeO (limiter_Run.f k a0 a1 a2 a3 a4) (limiter_Run.f (k+1) a0 a1 a2 a3 a4):=by
 intro a0 a1 a2 a3 a4 k;obtain ⟨ih0,ih1,ih2⟩:=limiter_Run.mono_l k;unfold limiter_Run.f
 repeat' first
   | (with_reducible exact ih0 _ _ _ _ _ _)
   | (with_reducible exact ih1 _ _ _ _ _ _ _ _)
   | (with_reducible exact ih2 _ _ _ _ _ _ _ _)
   | (with_reducible exact limiter_Run_1.mono _ _ _ _ _ _ _)
   | (with_reducible exact LeO.refl _)
   | (with_reducible exact LeO.none _)
   | (with_reducible refine LeO.ite ?_ ?_)
   | (with_reducible refine LeO.bind ?_ (fun _=>?_))
   | exact ih0 _ _ _ _ _ _
   | exact ih1 _ _ _ _ _ _ _ _
   | exact ih2 _ _ _ _ _ _ _ _
   | exact limiter_Run_1.mono _ _ _ _ _ _ _
   | exact LeO.none _
   | refine LeO.ite ?_ ?_
   | refine LeO.bind ?_ (fun _=>?_)
set_option maxHeartbeats 8000000 in
set_option maxRecDepth 100000 in
theorem limiter_Run.calls (k : Nat) (a0_0 : Int) (a0_1 : Int) (a0_2 : Int) (a1 : Int) (A2 : Option Addr) (c2 : Nat) (l2 : List Int) (r1 : Int) (r2 : List Int) (r3 : Int) (r4 : Int) (r5 : Int) (r6 : Int) (w : World) (hr2 : Kd.C (Kd.int .i64) w A2 l2.length l2) (hc2 : l2.length≤c2) (h : limiter_Run.f k a0_0 a0_1 a0_2 a1 l2=some (r1,r2,r3,r4,r5,r6)) :
  Calls Try.prog 36 #[.agg #[.int .i64 a0_0,.int .i64 a0_1,.int .i64 a0_2],.int .i64 a1,.slice A2 l2.length c2] w fun e w'=>∃ v1_ : Value,e = .returned (.tuple #[.agg #[.int .i64 r1,v1_],.agg #[.int .i64 r3,.int .i64 r4,.int .i64 r5],.int .i64 r6])∧Kd.R (Kd.int .i32) 21 w' w.heap.size (fun _=>True) v1_ r2∧Below w.heap.size w w':=by
 have hmf : ∀ (fn_ : Fn) (first_ cap_ : Array Value) (w_ : World),(Instr.makeFunc fn_ first_ cap_).run Try.prog w_ = .ok (.func fn_ first_ cap_) w_:=fun _ _ _ _=>rfl
 have hu24:=Try.underlying24;have hu43:=Try.underlying43;have HR2:=zo hr2;have HC2:=zo hc2;clear hr2 hc2;have HB:=zo (Below.refl w.heap.size w);have H:=h;unfold limiter_Run.f at H;clear h;replace H:=Option.bind_eq_some_iff.mp H;obtain ⟨t234,A40,H⟩:=H
 try dsimp only at H
 have A4:=zo A40;clear A40
 by_cases c5 : t234=true
 rotate_left
 ·replace c5:=Bool.eq_false_iff.mpr c5;subst c5;have H1:=H;rw [if_neg (show ¬ (false=true) by decide)] at H1;clear H;have H:=H1;clear H1;simp only [Option.some.injEq,Prod.mk.injEq] at H;obtain ⟨rfl,rfl,rfl,rfl,rfl,rfl⟩:=H
  go_enter Try.func36,Try.ntmps36
  go_wp2_with (first|((with_reducible refine gate_dst (N:=3) rfl ?_);(try (refine gate_guard (by rfl) ?_;dsimp only));refine box_event ?hg (N:=3) ?hd (cs:=#[.int .i64 a0_0,.int .i64 a0_1,.int .i64 a0_2]) (t:=24) ?hr ?_;(case hd=>rfl);(case hg=>rfl);(case hr=>first|(go_simp;done)|(go_simp;rfl));intro gb231 hg w58 hbox hb;have BK231:=zo hbox;have GW231:=zo (zS hg HB);have GE231:=zo (zS hg HB);replace HB:=zo (below_step (zW HB) hb);clear hb hbox hg)|((with_reducible refine gate_dst (N:=6) rfl ?_);(try (refine gate_guard (by rfl) ?_;dsimp only));refine box_event ?hg (N:=6) ?hd (cs:=#[.int .i64 0,.slice none 0 0]) (t:=43) ?hr ?_;(case hd=>rfl);(case hg=>rfl);(case hr=>first|(go_simp;done)|(go_simp;rfl));intro gb232 hg w59 hbox hb;have BK232:=zo hbox;have GW232:=zo (zS hg HB);have GE232:=zo (zS hg HB);replace HB:=zo (below_step (zW HB) hb);have NB231_232:=zo (zL hg BK231);have NB232_231:=zo (zG hg BK231);replace BK231:=zo (blk_below (zB BK231) hb);clear hb hbox hg)|((with_reducible refine gate_dst (N:=7) rfl ?_);(try (refine gate_guard (by rfl) ?_;dsimp only));refine box_event ?hg (N:=7) ?hd (cs:=#[.int .i64 0,.int .i64 0,.int .i64 0]) (t:=24) ?hr ?_;(case hd=>rfl);(case hg=>rfl);(case hr=>first|(go_simp;done)|(go_simp;rfl));intro gb233 hg w60 hbox hb;have BK233:=zo hbox;have GW233:=zo (zS hg HB);have GE233:=zo (zS hg HB);replace HB:=zo (below_step (zW HB) hb);have NB231_233:=zo (zL hg BK231);have NB233_231:=zo (zG hg BK231);replace BK231:=zo (blk_below (zB BK231) hb);have NB232_233:=zo (zL hg BK232);have NB233_232:=zo (zG hg BK232);replace BK232:=zo (blk_below (zB BK232) hb);clear hb hbox hg;have hnb61:=NB231_232.out;have hnc61:=NB232_231.out;have hnb62:=NB231_233.out;have hnc62:=NB233_231.out;obtain ⟨hcz63_0,hfz63_0,hcz63_1,hfz63_1,hcz63_2,hfz63_2⟩:=zn3 BK231)|((with_reducible refine gate_callee (f:=56) rfl ?_);refine goesL_ (some 15) rfl rfl Try.func56 zk rfl #[.agg #[.int .i64 a0_0,.int .i64 a0_1,.int .i64 a0_2]] rfl zA ?_;(with_reducible refine (limiter_Valid.calls a0_0 a0_1 a0_2 false _ A4.out).mono ?_);rintro e w64 ⟨rfl,hb⟩;refine ⟨_,rfl,?_⟩;replace BK231:=zo (blk_below (zB BK231) hb);replace BK232:=zo (blk_below (zB BK232) hb);replace BK233:=zo (blk_below (zB BK233) hb);replace HB:=zo (below_step (zW HB) hb);(try clear hb);have hnb65:=NB232_233.out;have hnc65:=NB233_232.out;obtain ⟨hcz66_0,hfz66_0,hcz66_1,hfz66_1⟩:=zn2 BK232;obtain ⟨hcz67_0,hfz67_0,hcz67_1,hfz67_1,hcz67_2,hfz67_2⟩:=zn3 BK233))
  refine bodyPost_ret (results_list (rs:=[.cell 6 43,.cell 7 24,.tmp 8]) rfl (by simp) (.cell gb232 43 #[.int .i64 0,.slice none 0 0] (0,0) _ rfl (zB BK232) Try.underlying43 rfl zk (.cell gb233 24 #[.int .i64 0,.int .i64 0,.int .i64 0] (0,0) _ rfl (zB BK233) Try.underlying24 rfl zk (.tmp .nil)))) rfl ?_;exact ⟨_,zX,by first|exact Kd.R_nil _ _ _ _ _|exact Kd.N_nil _ _ _ _ _|exact Kd.V_nil _ _ _ _ _|exact Kd.Q_nil _ _ _ _ _|exact Kd.S_nil _ _ _ _ _,zW HB⟩
 subst c5;have H1:=H;rw [if_pos rfl] at H1;clear H;have H:=H1;clear H1;have HC6:=zo H;clear H
 go_enter Try.func36,Try.ntmps36
 go_upto_region 3 with (first|((with_reducible refine gate_dst (N:=3) rfl ?_);(try (refine gate_guard (by rfl) ?_;dsimp only));refine box_event ?hg (N:=3) ?hd (cs:=#[.int .i64 a0_0,.int .i64 a0_1,.int .i64 a0_2]) (t:=24) ?hr ?_;(case hd=>rfl);(case hg=>rfl);(case hr=>first|(go_simp;done)|(go_simp;rfl));intro gb231 hg w7 hbox hb;have BK231:=zo hbox;have GW231:=zo (zS hg HB);have GE231:=zo (zS hg HB);replace HB:=zo (below_step (zW HB) hb);clear hb hbox hg)|((with_reducible refine gate_dst (N:=6) rfl ?_);(try (refine gate_guard (by rfl) ?_;dsimp only));refine box_event ?hg (N:=6) ?hd (cs:=#[.int .i64 0,.slice none 0 0]) (t:=43) ?hr ?_;(case hd=>rfl);(case hg=>rfl);(case hr=>first|(go_simp;done)|(go_simp;rfl));intro gb232 hg w8 hbox hb;have BK232:=zo hbox;have GW232:=zo (zS hg HB);have GE232:=zo (zS hg HB);replace HB:=zo (below_step (zW HB) hb);have NB231_232:=zo (zL hg BK231);have NB232_231:=zo (zG hg BK231);replace BK231:=zo (blk_below (zB BK231) hb);clear hb hbox hg)|((with_reducible refine gate_dst (N:=7) rfl ?_);(try (refine gate_guard (by rfl) ?_;dsimp only));refine box_event ?hg (N:=7) ?hd (cs:=#[.int .i64 0,.int .i64 0,.int .i64 0]) (t:=24) ?hr ?_;(case hd=>rfl);(case hg=>rfl);(case hr=>first|(go_simp;done)|(go_simp;rfl));intro gb233 hg w9 hbox hb;have BK233:=zo hbox;have GW233:=zo (zS hg HB);have GE233:=zo (zS hg HB);replace HB:=zo (below_step (zW HB) hb);have NB231_233:=zo (zL hg BK231);have NB233_231:=zo (zG hg BK231);replace BK231:=zo (blk_below (zB BK231) hb);have NB232_233:=zo (zL hg BK232);have NB233_232:=zo (zG hg BK232);replace BK232:=zo (blk_below (zB BK232) hb);clear hb hbox hg;have hnb10:=NB231_232.out;have hnc10:=NB232_231.out;have hnb11:=NB231_233.out;have hnc11:=NB233_231.out;obtain ⟨hcz12_0,hfz12_0,hcz12_1,hfz12_1,hcz12_2,hfz12_2⟩:=zn3 BK231)|((with_reducible refine gate_callee (f:=56) rfl ?_);refine goesL_ (some 15) rfl rfl Try.func56 zk rfl #[.agg #[.int .i64 a0_0,.int .i64 a0_1,.int .i64 a0_2]] rfl zA ?_;(with_reducible refine (limiter_Valid.calls a0_0 a0_1 a0_2 true _ A4.out).mono ?_);rintro e w13 ⟨rfl,hb⟩;refine ⟨_,rfl,?_⟩;replace BK231:=zo (blk_below (zB BK231) hb);replace BK232:=zo (blk_below (zB BK232) hb);replace BK233:=zo (blk_below (zB BK233) hb);replace HB:=zo (below_step (zW HB) hb);(try clear hb)))
 (try simp only [Act.put,List.setIfInBounds_toArray,List.set_cons_zero,List.set_cons_succ])
 go_cut [38] (fun v38 wc=>∃ (kq : Nat) (x38_5 : Bool),v38 = .bool x38_5∧Aside0 (limiter_Run.j0 kq a1 l2 x38_5 a0_0 a0_1 a0_2=some (r1,r2,r3,r4,r5,r6))∧Aside0 (kq≤k)∧Aside0 (wc.heap[gb231]?=some (.cells #[.int .i64 a0_0,.int .i64 a0_1,.int .i64 a0_2] 24 (0,0)))∧Aside0 (wc.heap[gb232]?=some (.cells #[.int .i64 0,(.slice none 0 0)] 43 (0,0)))∧Aside0 (wc.heap[gb233]?=some (.cells #[.int .i64 0,.int .i64 0,.int .i64 0] 24 (0,0)))∧Aside0 (Below w.heap.size w wc))
 case first=>
  have H:=HC6.out;clear HC6
  by_cases c14 : a1<1
  ·rw [if_pos c14] at H;have c14b0:=decide_eq_true c14;clear c14;(first|rw [c14b0]|(simp only [i64_w,i32_w];rw [c14b0])|skip);have H':=zo H;clear H
   go_wp2
   go_meet
   case rel=>exact ⟨_,(true),zE,H',⟨zY⟩,⟨zB BK231⟩,⟨zB BK232⟩,⟨zB BK233⟩,⟨zW HB⟩⟩
  rw [if_neg c14] at H;have c14b0:=decide_eq_false c14;clear c14;(first|rw [c14b0]|(simp only [i64_w,i32_w];rw [c14b0])|skip)
  by_cases c15 : a1>8
  ·rw [if_pos c15] at H;have c15b0:=decide_eq_true c15;clear c15;have H':=zo H;clear H
   go_wp2
   go_meet
   case rel=>exact ⟨_,(true),zE,H',⟨zY⟩,⟨zB BK231⟩,⟨zB BK232⟩,⟨zB BK233⟩,⟨zW HB⟩⟩
  rw [if_neg c15] at H;have c15b0:=decide_eq_false c15;clear c15
  by_cases c16 : a1=0
  ·rw [if_pos c16] at H;exact absurd H (by simp)
  rw [if_neg c16] at H;have c16b0 : (a1 == 0)=false:=beq_eq_false_iff_ne.mpr c16;have c16b1 : (a1 != 0)=true:=bne_iff_ne.mpr c16
  by_cases c17 : ((l2.length : Int) % a1)=0
  ·rw [if_pos c17] at H;have c17b0 : (((l2.length : Int) % a1) == 0)=true:=beq_iff_eq.mpr c17;have c17b1 : (((l2.length : Int) % a1) != 0)=false:=bne_eq_false_iff_eq.mpr c17;clear c17;have H':=zo H;clear H
   go_wp2
   go_meet
   case rel=>exact ⟨_,(decide ((wrap64 ((l2.length : Int) / a1))>65536)),zE,H',⟨zY⟩,⟨zB BK231⟩,⟨zB BK232⟩,⟨zB BK233⟩,⟨zW HB⟩⟩
  rw [if_neg c17] at H;have c17b0 : (((l2.length : Int) % a1) == 0)=false:=beq_eq_false_iff_ne.mpr c17;have c17b1 : (((l2.length : Int) % a1) != 0)=true:=bne_iff_ne.mpr c17;have H':=zo H;clear H
  go_wp2
  go_meet
  case rel=>exact ⟨_,(true),zE,H',⟨zY⟩,⟨zB BK231⟩,⟨zB BK232⟩,⟨zB BK233⟩,⟨zW HB⟩⟩
 case rest=>
  clear HC6
  try clear c1
  try clear c2
  try clear p2
  try clear c3
  try clear c5
  try clear p6
  try clear c10
  try clear c11
  try clear c14
  try clear c14b0
  try clear c15
  try clear c15b0
  try clear c16
  try clear c16b0
  try clear c16b1
  try clear c17
  try clear c17b0
  try clear c17b1
  obtain ⟨kq,x38_5,rfl,HA,HJ5,BK231,BK232,BK233,HB⟩:=hcut
  cases kq with
  | zero=>exact absurd HA.out (by simp [limiter_Run.j0])
  | succ kj5=>
   have H:=HA.out;clear HA;simp only [limiter_Run.j0] at H
   by_cases c18 : x38_5=true
   ·subst c18;have H1:=H;rw [if_pos rfl] at H1;clear H;have H:=H1;clear H1;simp only [Option.some.injEq,Prod.mk.injEq] at H;obtain ⟨rfl,rfl,rfl,rfl,rfl,rfl⟩:=H;have hnb19:=NB232_231.out;have hnc19:=NB231_232.out;have hnb20:=NB232_233.out;have hnc20:=NB233_232.out;obtain ⟨hcz21_0,hfz21_0,hcz21_1,hfz21_1⟩:=zn2 BK232;have hnb22:=NB233_231.out;have hnc22:=NB231_233.out;obtain ⟨hcz23_0,hfz23_0,hcz23_1,hfz23_1,hcz23_2,hfz23_2⟩:=zn3 BK233
    go_wp2
    refine bodyPost_ret (results_list (rs:=[.cell 6 43,.cell 7 24,.tmp 8]) rfl (by simp) (.cell gb232 43 #[.int .i64 0,.slice none 0 0] (0,0) _ rfl (zB BK232) Try.underlying43 rfl zk (.cell gb233 24 #[.int .i64 0,.int .i64 0,.int .i64 0] (0,0) _ rfl (zB BK233) Try.underlying24 rfl zk (.tmp .nil)))) rfl ?_;exact ⟨_,zX,by first|exact Kd.R_nil _ _ _ _ _|exact Kd.N_nil _ _ _ _ _|exact Kd.V_nil _ _ _ _ _|exact Kd.Q_nil _ _ _ _ _|exact Kd.S_nil _ _ _ _ _,zW HB⟩
   replace c18:=Bool.eq_false_iff.mpr c18;subst c18;have H1:=H;rw [if_neg (show ¬ (false=true) by decide)] at H1;clear H;have H:=H1;clear H1;have H':=zo H;clear H
   go_wp2
   go_loopg [43] kj5 (fun kq v43 w'=>∃ (x43_2 : Int) (x233000_2 : Int) (x234000_2 : Int) (x234001_2 : Int) (x234002_2 : Int),v43 = .int .i64 x43_2∧Aside0 (limiter_Run.l0 kq a1 l2 l2 (l2.length : Int) x43_2 a0_0 a0_1 a0_2=some (r1,r2,r3,r4,r5,r6))∧Aside0 (kq≤kj5)∧Aside0 (w'.heap[gb231]?=some (.cells #[.int .i64 a0_0,.int .i64 a0_1,.int .i64 a0_2] 24 (0,0)))∧Aside0 (w'.heap[gb232]?=some (.cells #[.int .i64 x233000_2,(.slice none 0 0)] 43 (0,0)))∧Aside0 (w'.heap[gb233]?=some (.cells #[.int .i64 x234000_2,.int .i64 x234001_2,.int .i64 x234002_2] 24 (0,0)))∧Aside0 (Below w.heap.size w w'))
   case atStart=>exact ⟨(0),(0),(0),(0),(0),zE,H',⟨Nat.le_refl _⟩,⟨zB BK231⟩,⟨zB BK232⟩,⟨zB BK233⟩,⟨zW HB⟩⟩
   case round=>
    clear H'
    try clear c1
    try clear c2
    try clear p2
    try clear c3
    try clear c5
    try clear p6
    try clear c10
    try clear c11
    try clear c14
    try clear c14b0
    try clear c15
    try clear c15b0
    try clear c16
    try clear c16b0
    try clear c16b1
    try clear c17
    try clear c17b0
    try clear c17b1
    try clear c18
    try clear c19
    try clear c20
    try clear c22
    try clear p2
    try clear p6
    obtain ⟨x43_2,x233000_2,x234000_2,x234001_2,x234002_2,rfl,HA,HK2,BK231,BK232,BK233,HB⟩:=hrel
    cases gk with
    | zero=>exact absurd HA.out (by simp [limiter_Run.l0])
    | succ k2=>
     have H:=HA.out;clear HA;simp only [limiter_Run.l0] at H
     by_cases c24 : x43_2<(l2.length : Int)
     ·rw [if_pos c24] at H;have c24b0:=decide_eq_true c24;clear c24
      by_cases c25 : 0≤x43_2
      rotate_left
      ·rw [if_neg c25] at H;exact absurd H (by simp)
      rw [if_pos c25] at H;have c25b0:=decide_eq_true c25;clear c25
      by_cases c26 : x43_2<(l2.length : Int)
      rotate_left
      ·rw [if_neg c26] at H;exact absurd H (by simp)
      rw [if_pos c26] at H;have c26b0:=decide_eq_true c26;clear c26
      by_cases c27 : (rd l2 x43_2)<(-1099511627776)
      ·rw [if_pos c27] at H;have c27b0:=decide_eq_true c27;clear c27;simp only [Option.some.injEq,Prod.mk.injEq] at H;obtain ⟨rfl,rfl,rfl,rfl,rfl,rfl⟩:=H;have p235 : 0≤(x43_2 : Int):=zD;have q235 : x43_2<(l2.length : Int):=zD;obtain ⟨ad235,e235,hx235_0⟩:=Kd.at_int HR2.out x43_2 p235 q235
       cases e235
       (try (replace hx235_0:=(HB.out.cell (World.block_lt_of_cell? w _ hx235_0)).trans hx235_0));replace p235:=eq_true p235;replace q235:=eq_true q235;have hnb28:=NB232_231.out;have hnc28:=NB231_232.out;have hnb29:=NB232_233.out;have hnc29:=NB233_232.out;obtain ⟨hcz30_0,hfz30_0,hcz30_1,hfz30_1⟩:=zn2 BK232;have hnb31:=NB233_231.out;have hnc31:=NB231_233.out;obtain ⟨hcz32_0,hfz32_0,hcz32_1,hfz32_1,hcz32_2,hfz32_2⟩:=zn3 BK233
       go_wp2
       refine bodyPost_ret (results_list (rs:=[.cell 6 43,.cell 7 24,.tmp 8]) rfl (by simp) (.cell gb232 43 #[.int .i64 0,.slice none 0 0] (0,0) _ rfl (zB BK232) Try.underlying43 rfl zk (.cell gb233 24 #[.int .i64 0,.int .i64 0,.int .i64 0] (0,0) _ rfl (zB BK233) Try.underlying24 rfl zk (.tmp .nil)))) rfl ?_;exact ⟨_,zX,by first|exact Kd.R_nil _ _ _ _ _|exact Kd.N_nil _ _ _ _ _|exact Kd.V_nil _ _ _ _ _|exact Kd.Q_nil _ _ _ _ _|exact Kd.S_nil _ _ _ _ _,zW HB⟩
      rw [if_neg c27] at H;have c27b0:=decide_eq_false c27;clear c27
      by_cases c33 : (rd l2 x43_2)>1099511627776
      rotate_left
      ·rw [if_neg c33] at H;have c33b0:=decide_eq_false c33;clear c33;have H':=zo H;clear H;have p235 : 0≤(x43_2 : Int):=zD;have q235 : x43_2<(l2.length : Int):=zD;obtain ⟨ad235,e235,hx235_0⟩:=Kd.at_int HR2.out x43_2 p235 q235
       cases e235
       (try (replace hx235_0:=(HB.out.cell (World.block_lt_of_cell? w _ hx235_0)).trans hx235_0));replace p235:=eq_true p235;replace q235:=eq_true q235
       go_wp2
       go_roundg k2
       case measure=>have:=HJ5.out;have:=HK2.out;omega
       case rel=>exact ⟨(wrap64 (x43_2+1)),(x233000_2),(x234000_2),(x234001_2),(x234002_2),zE,H',⟨by have:=HJ5.out;have:=HK2.out;omega⟩,⟨zB BK231⟩,⟨zB BK232⟩,⟨zB BK233⟩,⟨zW HB⟩⟩
      rw [if_pos c33] at H;have c33b0:=decide_eq_true c33;clear c33;simp only [Option.some.injEq,Prod.mk.injEq] at H;obtain ⟨rfl,rfl,rfl,rfl,rfl,rfl⟩:=H;have p235 : 0≤(x43_2 : Int):=zD;have q235 : x43_2<(l2.length : Int):=zD;obtain ⟨ad235,e235,hx235_0⟩:=Kd.at_int HR2.out x43_2 p235 q235
      cases e235
      (try (replace hx235_0:=(HB.out.cell (World.block_lt_of_cell? w _ hx235_0)).trans hx235_0));replace p235:=eq_true p235;replace q235:=eq_true q235;have hnb34:=NB232_231.out;have hnc34:=NB231_232.out;have hnb35:=NB232_233.out;have hnc35:=NB233_232.out;obtain ⟨hcz36_0,hfz36_0,hcz36_1,hfz36_1⟩:=zn2 BK232;have hnb37:=NB233_231.out;have hnc37:=NB231_233.out;obtain ⟨hcz38_0,hfz38_0,hcz38_1,hfz38_1,hcz38_2,hfz38_2⟩:=zn3 BK233
      go_wp2
      refine bodyPost_ret (results_list (rs:=[.cell 6 43,.cell 7 24,.tmp 8]) rfl (by simp) (.cell gb232 43 #[.int .i64 0,.slice none 0 0] (0,0) _ rfl (zB BK232) Try.underlying43 rfl zk (.cell gb233 24 #[.int .i64 0,.int .i64 0,.int .i64 0] (0,0) _ rfl (zB BK233) Try.underlying24 rfl zk (.tmp .nil)))) rfl ?_;exact ⟨_,zX,by first|exact Kd.R_nil _ _ _ _ _|exact Kd.N_nil _ _ _ _ _|exact Kd.V_nil _ _ _ _ _|exact Kd.Q_nil _ _ _ _ _|exact Kd.S_nil _ _ _ _ _,zW HB⟩
     rw [if_neg c24] at H;have c24b0:=decide_eq_false c24;clear c24;have H':=zo H;clear H
     go_wp2_with (first|((with_reducible refine gate_dst (N:=11) rfl ?_);(try (refine gate_guard (by rfl) ?_;dsimp only));refine box_event ?hg (N:=11) ?hd (cs:=#[.int .i64 0,.slice none 0 0]) (t:=43) ?hr ?_;(case hd=>rfl);(case hg=>rfl);(case hr=>first|(go_simp;done)|(go_simp;rfl));intro gb236 hg w39 hbox hb;have BK236:=zo hbox;have GW236:=zo (zS hg HB);have GE236:=zo (zS hg HB);replace HB:=zo (below_step (zW HB) hb);have NB231_236:=zo (zL hg BK231);have NB236_231:=zo (zG hg BK231);replace BK231:=zo (blk_below (zB BK231) hb);have NB232_236:=zo (zL hg BK232);have NB236_232:=zo (zG hg BK232);replace BK232:=zo (blk_below (zB BK232) hb);have NB233_236:=zo (zL hg BK233);have NB236_233:=zo (zG hg BK233);replace BK233:=zo (blk_below (zB BK233) hb);clear hb hbox hg;have hnb40:=NB236_231.out;have hnc40:=NB231_236.out;have hnb41:=NB236_232.out;have hnc41:=NB232_236.out;have hnb42:=NB236_233.out;have hnc42:=NB233_236.out;obtain ⟨hcz43_0,hfz43_0,hcz43_1,hfz43_1⟩:=zn2 BK236))
     go_loopg [13] k2 (fun kq v13 w'=>∃ (x13_3 : Int) (x232000_3 : Int) (x232001_3 : Int) (x232002_3 : Int) (x237000_3 : Int) (x237001_3 : List Int) (u237001 : Value),v13 = .int .i64 x13_3∧Aside0 (limiter_Run.l1 kq a1 l2 x13_3 x232000_3 x232001_3 x232002_3 x237000_3 x237001_3=some (r1,r2,r3,r4,r5,r6))∧Aside0 (kq≤k2)∧Aside0 (Kd.R (Kd.int .i32) 21 w' w.heap.size (fun _=>True) u237001 x237001_3)∧Aside0 (w'.heap[gb231]?=some (.cells #[.int .i64 x232000_3,.int .i64 x232001_3,.int .i64 x232002_3] 24 (0,0)))∧Aside0 (w'.heap[gb232]?=some (.cells #[.int .i64 x233000_2,(.slice none 0 0)] 43 (0,0)))∧Aside0 (w'.heap[gb233]?=some (.cells #[.int .i64 x234000_2,.int .i64 x234001_2,.int .i64 x234002_2] 24 (0,0)))∧Aside0 (w'.heap[gb236]?=some (.cells #[.int .i64 x237000_3,u237001] 43 (0,0)))∧Aside0 (Below w.heap.size w w'))
     case atStart=>exact ⟨(0),(a0_0),(a0_1),(a0_2),(a1),(([] : List Int)),(.slice none 0 0),zE,H',⟨Nat.le_refl _⟩,⟨by first|exact Kd.R_nil _ _ _ _ _|exact Kd.N_nil _ _ _ _ _|exact Kd.V_nil _ _ _ _ _|exact Kd.Q_nil _ _ _ _ _|exact Kd.S_nil _ _ _ _ _⟩,⟨zB BK231⟩,⟨zB BK232⟩,⟨zB BK233⟩,⟨zB BK236⟩,⟨zW HB⟩⟩
     case round=>
      clear H'
      try clear c1
      try clear c2
      try clear p2
      try clear q2
      try clear hx2
      try clear c3
      try clear c4
      try clear c5
      try clear p6
      try clear c10
      try clear c11
      try clear c14
      try clear c14b0
      try clear c15
      try clear c15b0
      try clear c16
      try clear c16b0
      try clear c16b1
      try clear c17
      try clear c17b0
      try clear c17b1
      try clear c18
      try clear c19
      try clear c20
      try clear c22
      try clear p23
      try clear q23
      try clear hx23
      try clear c24
      try clear c24b0
      try clear c25
      try clear c25b0
      try clear c26
      try clear c26b0
      try clear c27
      try clear c27b0
      try clear c28
      try clear c29
      try clear c31
      try clear c33
      try clear c33b0
      try clear c34
      try clear c35
      try clear c36
      try clear c37
      try clear c40
      try clear c41
      try clear c42
      try clear hx235_0
      try clear p2
      try clear p235
      try clear p6
      try clear q235
      obtain ⟨x13_3,x232000_3,x232001_3,x232002_3,x237000_3,x237001_3,u237001,rfl,HA,HK3,HO_237001,BK231,BK232,BK233,BK236,HB⟩:=hrel
      cases gk with
      | zero=>exact absurd HA.out (by simp [limiter_Run.l1])
      | succ k3=>
       have H:=HA.out;clear HA;simp only [limiter_Run.l1] at H
       by_cases c44 : x13_3<(l2.length : Int)
       ·rw [if_pos c44] at H;have c44b0:=decide_eq_true c44;clear c44
        by_cases c45 : 0≤x13_3
        rotate_left
        ·rw [if_neg c45] at H;exact absurd H (by simp)
        rw [if_pos c45] at H;have c45b0:=eq_true c45;have c45b1:=decide_eq_true c45;clear c45
        by_cases c46 : x13_3≤(wrap64 (x13_3+a1))
        rotate_left
        ·rw [if_neg c46] at H;exact absurd H (by simp)
        rw [if_pos c46] at H;have c46b0:=eq_true c46;have c46b1:=decide_eq_true c46
        by_cases c47 : (wrap64 (x13_3+a1))≤(l2.length : Int)
        rotate_left
        ·rw [if_neg c47] at H;exact absurd H (by simp)
        rw [if_pos c47] at H;have c47b0:=eq_true c47;have c47b1:=decide_eq_true c47;replace H:=Option.bind_eq_some_iff.mp H;obtain ⟨⟨t238,t239,t240,t241,t242⟩,A480,H⟩:=H
        try dsimp only at H
        have A48:=zo A480;clear A480;have H':=zo H;clear H;obtain ⟨i049,hi049,_,hsz49,_⟩:=info_parts info2;obtain ⟨A49,hcut49,hA49,hC49⟩:=print_mid_of (P:=Try.prog) (Value.int .i64) 0 37 2 .i64 .i64 Try.underlying37 hi049 hsz49 A2 c2 l2 x13_3 (wrap64 (x13_3+a1)) (zD) (by first|omega|exact zD) (zD) HC2.out;have HR237:=zo (Kd.C_of_reads (h1:=fun _=>rfl) (hA49 _ (Kd.reads_of_C HR2.out)));have HC237:=zo hC49;clear hA49 hC49 hi049 hsz49;have HSL49:=zo (show ((l2.take ((wrap64 (x13_3+a1)) : Int).toNat).drop (x13_3 : Int).toNat).length=((wrap64 (x13_3+a1)).toNat - x13_3.toNat) from (by rw [List.length_drop,List.length_take];have h_ : ((wrap64 (x13_3+a1)) : Int)≤(l2.length : Int):=zD;omega))
        go_wp2_with (first|(go_at_call 57;refine calls_of_args (args':=#[.slice A49 ((l2.take ((wrap64 (x13_3+a1)) : Int).toNat).drop (x13_3 : Int).toNat).length (c2 - x13_3.toNat),.pointer (some ⟨gb231,0,none⟩),.pointer (some ⟨gb236,0,none⟩)]) (by first|(rw [show ((l2.take ((wrap64 (x13_3+a1)) : Int).toNat).drop (x13_3 : Int).toNat).length=((wrap64 (x13_3+a1)).toNat - x13_3.toNat) from (by rw [List.length_drop,List.length_take];have h_ : ((wrap64 (x13_3+a1)) : Int)≤(l2.length : Int):=zD;omega)] <;> rfl)|rfl) ?_;refine (limiter_Run_1.calls k3 _ _ ((l2.take ((wrap64 (x13_3+a1)) : Int).toNat).drop (x13_3 : Int).toNat) gb231 x232000_3 x232001_3 x232002_3 gb236 x237000_3 x237001_3 u237001 gb232 x233000_2 gb233 x234000_2 x234001_2 x234002_2 t238 t239 t240 t241 t242 w _ ?side1 ?side2 ?side3 ?side4 ?side5 ?side6 ?side7 ?side8 ?side9 ?side10 ?side11 ?side12 ?side13 ?side14 ?side15 ?side16 ?side17 ?side18 A48.out).mono ?_;(case side1=>exact HR237.out);(case side2=>exact HC237.out);(case side3=>exact zB BK231);(case side4=>exact GW231.out);(case side5=>exact zB BK236);(case side6=>exact GW236.out);(case side7=>exact (zR HO_237001));(case side8=>exact zB BK232);(case side9=>exact GW232.out);(case side10=>exact zB BK233);(case side11=>exact GW233.out);(case side12=>exact NB231_236.out);(case side13=>exact NB231_232.out);(case side14=>exact NB231_233.out);(case side15=>exact NB236_232.out);(case side16=>exact NB236_233.out);(case side17=>exact NB232_233.out);(case side18=>exact zW HB);rintro e w50 ⟨v243,rfl,hbk231,ho0,hbk236,hbk232,hbk233,hb⟩;replace BK231:=zo hbk231;replace BK232:=zo hbk232;replace BK233:=zo hbk233;replace BK236:=zo hbk236;have HO244:=zo ho0;replace HB:=zo hb;clear HO_237001;(try clear hb);(try clear hbk231);(try clear ho0);(try clear hbk236);(try clear hbk232);(try clear hbk233)))
        go_roundg k3
        case measure=>have:=HJ5.out;have:=HK2.out;have:=HK3.out;omega
        case rel=>exact ⟨(wrap64 (x13_3+a1)),(t238),(t239),(t240),(t241),(t242),(v243),zE,H',⟨by have:=HJ5.out;have:=HK2.out;have:=HK3.out;omega⟩,⟨zR HO244⟩,⟨zB BK231⟩,⟨zB BK232⟩,⟨zB BK233⟩,⟨zB BK236⟩,⟨zW HB⟩⟩
       rw [if_neg c44] at H;have c44b0:=decide_eq_false c44;clear c44;simp only [Option.some.injEq,Prod.mk.injEq] at H;obtain ⟨rfl,rfl,rfl,rfl,rfl,rfl⟩:=H
       try go_wp2
       have n0_:=zo (Kd.R_drew HO_237001.out);have n1_:=zo (blk_drew BK231.out);have n2_:=zo (blk_drew BK232.out);have n3_:=zo (blk_drew BK233.out);have n4_:=zo (blk_drew BK236.out);have n5_:=zo (below_drew1 HB.out);clear HO_237001;clear BK231;clear BK232;clear BK233;clear BK236;clear HB;have HO_237001:=n0_;have BK231:=n1_;have BK232:=n2_;have BK233:=n3_;have BK236:=n4_;have HB:=n5_;clear n0_ n1_ n2_ n3_ n4_ n5_;obtain ⟨Ao53,co53,eo53⟩:=Kd.R_slice HO_237001.out;(first|subst eo53|(injection eo53 with f1_ f2_ f3_;have f4_:=f1_.symm;have f5_:=f3_.symm;clear f1_ f2_ f3_;subst f4_;subst f5_));refine start_ (n:=5) (S:=fun w'=>w'.cell? ⟨gb236,0,none⟩=some (.int .i64 x237000_3)∧w'.cell? ⟨gb236,1,none⟩=some (.slice Ao53 x237001_3.length co53)∧w'.cell? ⟨gb231,0,none⟩=some (.int .i64 x232000_3)∧w'.cell? ⟨gb231,1,none⟩=some (.int .i64 x232001_3)∧w'.cell? ⟨gb231,2,none⟩=some (.int .i64 x232002_3)) (ds:=[]) #[false,false,false,false,false] zk rfl rfl ⟨(blk_cell BK236.out 0).trans rfl,(blk_cell BK236.out 1).trans rfl,(blk_cell BK231.out 0).trans rfl,(blk_cell BK231.out 1).trans rfl,(blk_cell BK231.out 2).trans rfl⟩ (fun hHeld=>?_);generalize wr.drew=w51 at HO_237001 BK231 BK232 BK233 BK236 HB hHeld ⊢;refine take_ (i:=0) (N:=some 74) (v:=?_) (a':=?_) #[true,false,false,false,false] rfl rfl zk (fun _ _ _ h=>h) (Or.inl ⟨by rfl,?_⟩) hHeld ?_ ?_;rotate_left
       ·rintro w' ⟨s0,s1,s2,s3,s4⟩
        go_simp
        with_reducible rfl
       rotate_left
       ·simp only [Act.put,List.setIfInBounds_toArray,List.set_cons_zero,List.set_cons_succ,i64_w,i32_w];rfl
       refine take_ (i:=1) (N:=some 75) (v:=?_) (a':=?_) #[true,true,false,false,false] rfl rfl zk (fun _ _ _ h=>h) (Or.inl ⟨by rfl,?_⟩) hHeld ?_ ?_;rotate_left
       ·rintro w' ⟨s0,s1,s2,s3,s4⟩
        go_simp
        with_reducible rfl
       rotate_left
       ·simp only [Act.put,List.setIfInBounds_toArray,List.set_cons_zero,List.set_cons_succ,i64_w,i32_w];rfl
       refine one_ (i:=2) (N:=none) #[true,true,true,false,false] rfl rfl zk (by decide) (fun K hK=>?_);have hs52:=zc BK232 0 (.int .i64 x233000_2) rfl;have hfs52:=blk_frozen BK232.out 0;have hns52_0:=NB231_232.out;have hns52_2:=NB233_232.out;have hns52_3:=NB236_232.out;have hms52_0:=NB232_231.out;have hms52_2:=NB232_233.out;have hms52_3:=NB232_236.out;have hs54:=zc BK232 1 (.slice none 0 0) rfl;have hfs54:=blk_frozen BK232.out 1;have hns54_0:=NB231_232.out;have hns54_2:=NB233_232.out;have hns54_3:=NB236_232.out;have hms54_0:=NB232_231.out;have hms54_2:=NB232_233.out;have hms54_3:=NB232_236.out;refine skip_ (w1:=?_) (by rfl) rfl ?_ ?_;rotate_left
       ·go_simp
        rfl
       refine hK.out _ _ ⟨((cell_far (p:=⟨gb232,_,none⟩) NB236_232.out _).trans (((cell_far (p:=⟨gb232,_,none⟩) NB236_232.out _).trans (hHeld.1)))),((cell_far (p:=⟨gb232,_,none⟩) NB236_232.out _).trans (((cell_far (p:=⟨gb232,_,none⟩) NB236_232.out _).trans (hHeld.2.1)))),((cell_far (p:=⟨gb232,_,none⟩) NB231_232.out _).trans (((cell_far (p:=⟨gb232,_,none⟩) NB231_232.out _).trans (hHeld.2.2.1)))),((cell_far (p:=⟨gb232,_,none⟩) NB231_232.out _).trans (((cell_far (p:=⟨gb232,_,none⟩) NB231_232.out _).trans (hHeld.2.2.2.1)))),((cell_far (p:=⟨gb232,_,none⟩) NB231_232.out _).trans (((cell_far (p:=⟨gb232,_,none⟩) NB231_232.out _).trans (hHeld.2.2.2.2))))⟩ (fun hHeld=>?_);clear hK K;refine one_ (i:=3) (N:=none) #[true,true,true,true,false] rfl rfl zk (by decide) (fun K hK=>?_);have hs55:=zc BK233 0 (.int .i64 x234000_2) rfl;have hfs55:=blk_frozen BK233.out 0;have hns55_0:=NB231_233.out;have hns55_1:=NB232_233.out;have hns55_3:=NB236_233.out;have hms55_0:=NB233_231.out;have hms55_1:=NB233_232.out;have hms55_3:=NB233_236.out;have hs56:=zc BK233 1 (.int .i64 x234001_2) rfl;have hfs56:=blk_frozen BK233.out 1;have hns56_0:=NB231_233.out;have hns56_1:=NB232_233.out;have hns56_3:=NB236_233.out;have hms56_0:=NB233_231.out;have hms56_1:=NB233_232.out;have hms56_3:=NB233_236.out;have hs57:=zc BK233 2 (.int .i64 x234002_2) rfl;have hfs57:=blk_frozen BK233.out 2;have hns57_0:=NB231_233.out;have hns57_1:=NB232_233.out;have hns57_3:=NB236_233.out;have hms57_0:=NB233_231.out;have hms57_1:=NB233_232.out;have hms57_3:=NB233_236.out;refine skip_ (w1:=?_) (by rfl) rfl ?_ ?_;rotate_left
       ·go_simp
        rfl
       refine hK.out _ _ ⟨((cell_far (p:=⟨gb233,_,none⟩) NB236_233.out _).trans (((cell_far (p:=⟨gb233,_,none⟩) NB236_233.out _).trans (((cell_far (p:=⟨gb233,_,none⟩) NB236_233.out _).trans (hHeld.1)))))),((cell_far (p:=⟨gb233,_,none⟩) NB236_233.out _).trans (((cell_far (p:=⟨gb233,_,none⟩) NB236_233.out _).trans (((cell_far (p:=⟨gb233,_,none⟩) NB236_233.out _).trans (hHeld.2.1)))))),((cell_far (p:=⟨gb233,_,none⟩) NB231_233.out _).trans (((cell_far (p:=⟨gb233,_,none⟩) NB231_233.out _).trans (((cell_far (p:=⟨gb233,_,none⟩) NB231_233.out _).trans (hHeld.2.2.1)))))),((cell_far (p:=⟨gb233,_,none⟩) NB231_233.out _).trans (((cell_far (p:=⟨gb233,_,none⟩) NB231_233.out _).trans (((cell_far (p:=⟨gb233,_,none⟩) NB231_233.out _).trans (hHeld.2.2.2.1)))))),((cell_far (p:=⟨gb233,_,none⟩) NB231_233.out _).trans (((cell_far (p:=⟨gb233,_,none⟩) NB231_233.out _).trans (((cell_far (p:=⟨gb233,_,none⟩) NB231_233.out _).trans (hHeld.2.2.2.2))))))⟩ (fun hHeld=>?_);clear hK K;refine pure_ (i:=4) (N:=some 8) (v:=?_) (a':=?_) #[true,true,true,true,true] rfl rfl zk (fun _ _ _ h=>h) (Or.inl ⟨by rfl,?_⟩) ?_ ?_;rotate_left
       ·intro w'
        go_simp
        with_reducible rfl
       rotate_left
       ·simp only [Act.put,List.setIfInBounds_toArray,List.set_cons_zero,List.set_cons_succ,i64_w,i32_w];rfl
       refine done_ zk ?_
       try go_wp2
       refine bodyPost_ret (results_list (rs:=[.cell 6 43,.cell 7 24,.tmp 8]) rfl (by simp) (.cell gb232 43 #[.int .i64 x237000_3,.slice Ao53 x237001_3.length co53] (0,0) _ rfl (zB BK232) Try.underlying43 rfl zk (.cell gb233 24 #[.int .i64 x232000_3,.int .i64 x232001_3,.int .i64 x232002_3] (0,0) _ rfl (zB BK233) Try.underlying24 rfl zk (.tmp .nil)))) rfl ?_;exact ⟨_,zX,by (with_reducible repeat (first|apply Kd.R_alloc|apply Kd.R_drewN|apply Kd.R_drew));exact Kd.R_mono (Kd.R_far (p:=⟨gb233,2,none⟩) (Kd.R_far (p:=⟨gb233,1,none⟩) (Kd.R_far (p:=⟨gb233,0,none⟩) (Kd.R_far (p:=⟨gb232,1,none⟩) (Kd.R_far (p:=⟨gb232,0,none⟩) (Kd.R_types (Kd.R_types HO_237001.out BK232.out (by decide)) BK233.out (by decide)) (fun _ hk=>hk.1.2) (.int .i64 x237000_3)) (fun _ hk=>hk.1.2) (.slice Ao53 x237001_3.length co53)) (fun _ hk=>hk.2) (.int .i64 x232000_3)) (fun _ hk=>hk.2) (.int .i64 x232001_3)) (fun _ hk=>hk.2) (.int .i64 x232002_3)) (fun _ hk=>trivial),zW HB⟩

def mixture_Mix.f (k : Nat) (a0 : Int) (a1 : Int) (l2 : List (S54)) (a3_0 : Int) (a3_1 : Int) (a3_2 : Int) : Option (Int×List Int×Int×Int×Int×Int):=(mixture_Sum.f k a0 a1 l2).bind fun bt248=>(if bt248.2=0 then ((limiter_Run.f k a3_0 a3_1 a3_2 a0 bt248.1).bind fun bt252=>(some (bt252.1,bt252.2.1,bt252.2.2.1,bt252.2.2.2.1,bt252.2.2.2.2.1,bt252.2.2.2.2.2))) else (some (0,([] : List Int),0,0,0,bt248.2)))
theorem mixture_Mix.mono : ∀ a0 a1 a2 a3 a4 a5 k,LeO (mixture_Mix.f k a0 a1 a2 a3 a4 a5) (mixture_Mix.f (k+1) a0 a1 a2 a3 a4 a5):=by
 intro a0 a1 a2 a3 a4 a5 k;unfold mixture_Mix.f
 repeat' first
   | (with_reducible exact limiter_Run.mono _ _ _ _ _ _)
   | (with_reducible exact mixture_Sum.mono _ _ _ _)
   | (with_reducible exact LeO.refl _)
   | (with_reducible exact LeO.none _)
   | (with_reducible refine LeO.ite ?_ ?_)
   | (with_reducible refine LeO.bind ?_ (fun _=>?_))
   | exact limiter_Run.mono _ _ _ _ _ _
   | exact mixture_Sum.mono _ _ _ _
   | exact LeO.none _
   | refine LeO.ite ?_ ?_
   | refine LeO.bind ?_ (fun _=>?_)
set_option maxHeartbeats 8000000 in
set_option maxRecDepth 100000 in
theorem mixture_Mix.calls (k : Nat) (a0 : Int) (a1 : Int) (A2 : Option Addr) (c2 : Nat) (l2 : List (S54)) (a3_0 : Int) (a3_1 : Int) (a3_2 : Int) (r1 : Int) (r2 : List Int) (r3 : Int) (r4 : Int) (r5 : Int) (r6 : Int) (w : World) (hr2 : Kd.C k54 w A2 l2.length l2) (hc2 : l2.length≤c2) (h : mixture_Mix.f k a0 a1 l2 a3_0 a3_1 a3_2=some (r1,r2,r3,r4,r5,r6)) :
  Calls Try.prog 16 #[.int .i64 a0,.int .i64 a1,.slice A2 l2.length c2,.agg #[.int .i64 a3_0,.int .i64 a3_1,.int .i64 a3_2]] w fun e w'=>∃ v1_ : Value,e = .returned (.tuple #[.agg #[.int .i64 r1,v1_],.agg #[.int .i64 r3,.int .i64 r4,.int .i64 r5],.int .i64 r6])∧Kd.R (Kd.int .i32) 21 w' w.heap.size (fun _=>True) v1_ r2∧Below w.heap.size w w':=by
 have hu24:=Try.underlying24;have hu43:=Try.underlying43;have HR2:=zo hr2;have HC2:=zo hc2;clear hr2 hc2;have HB:=zo (Below.refl w.heap.size w);have H:=h;unfold mixture_Mix.f at H;clear h;replace H:=Option.bind_eq_some_iff.mp H;obtain ⟨⟨t248,t249⟩,A50,H⟩:=H
 try dsimp only at H
 have A5:=zo A50;clear A50
 by_cases c6 : t249=0
 rotate_left
 ·rw [if_neg c6] at H;have c6b0 : (t249 == 0)=false:=beq_eq_false_iff_ne.mpr c6;have c6b1 : (t249 != 0)=true:=bne_iff_ne.mpr c6;simp only [Option.some.injEq,Prod.mk.injEq] at H;obtain ⟨rfl,rfl,rfl,rfl,rfl,rfl⟩:=H
  go_enter Try.func16,Try.ntmps16
  go_wp2_with (first|((with_reducible refine gate_dst (N:=7) rfl ?_);refine box_event ?hg (N:=7) ?hd (cs:=#[.int .i64 a3_0,.int .i64 a3_1,.int .i64 a3_2]) (t:=24) ?hr ?_;(case hd=>rfl);(case hg=>rfl);(case hr=>first|(go_simp;done)|(go_simp;rfl));intro gb245 hg w21 hbox hb;have BK245:=zo hbox;have GW245:=zo (zS hg HB);have GE245:=zo (zS hg HB);replace HB:=zo (below_step (zW HB) hb);clear hb hbox hg)|((with_reducible refine gate_dst (N:=8) rfl ?_);refine box_event ?hg (N:=8) ?hd (cs:=#[.int .i64 0,.slice none 0 0]) (t:=43) ?hr ?_;(case hd=>rfl);(case hg=>rfl);(case hr=>first|(go_simp;done)|(go_simp;rfl));intro gb246 hg w22 hbox hb;have BK246:=zo hbox;have GW246:=zo (zS hg HB);have GE246:=zo (zS hg HB);replace HB:=zo (below_step (zW HB) hb);have NB245_246:=zo (zL hg BK245);have NB246_245:=zo (zG hg BK245);replace BK245:=zo (blk_below (zB BK245) hb);clear hb hbox hg)|((with_reducible refine gate_dst (N:=9) rfl ?_);refine box_event ?hg (N:=9) ?hd (cs:=#[.int .i64 0,.int .i64 0,.int .i64 0]) (t:=24) ?hr ?_;(case hd=>rfl);(case hg=>rfl);(case hr=>first|(go_simp;done)|(go_simp;rfl));intro gb247 hg w23 hbox hb;have BK247:=zo hbox;have GW247:=zo (zS hg HB);have GE247:=zo (zS hg HB);replace HB:=zo (below_step (zW HB) hb);have NB245_247:=zo (zL hg BK245);have NB247_245:=zo (zG hg BK245);replace BK245:=zo (blk_below (zB BK245) hb);have NB246_247:=zo (zL hg BK246);have NB247_246:=zo (zG hg BK246);replace BK246:=zo (blk_below (zB BK246) hb);clear hb hbox hg)|((with_reducible refine gate_callee (f:=14) rfl ?_);refine goesL_ (some 17) rfl rfl Try.func14 zk rfl #[.int .i64 a0,.int .i64 a1,.slice A2 l2.length c2] rfl zA ?_;(with_reducible refine (mixture_Sum.calls k a0 a1 _ _ l2 t248 t249 _ ?side1 ?side2 A5.out).mono ?_);(case side1=>repeat (first|exact (Kd.C_below HR2.out HB.out)|(with_reducible refine Kd.C_alloc ?_ _)|(with_reducible refine Kd.C_drewN ?_ _)|(with_reducible refine Kd.C_drew ?_)));(case side2=>exact HC2.out);rintro e w24 ⟨v250,rfl,ho0,hb⟩;refine ⟨_,rfl,?_⟩;have HO251:=zo (Kd.R_lower ho0 (below_size (zW HB)));replace BK245:=zo (blk_below (zB BK245) hb);replace BK246:=zo (blk_below (zB BK246) hb);replace BK247:=zo (blk_below (zB BK247) hb);replace HB:=zo (below_step (zW HB) hb);(try clear hb);(try clear ho0);have hnb25:=NB246_245.out;have hnc25:=NB245_246.out;have hnb26:=NB246_247.out;have hnc26:=NB247_246.out;obtain ⟨hcz27_0,hfz27_0,hcz27_1,hfz27_1⟩:=zn2 BK246;have hnb28:=NB247_245.out;have hnc28:=NB245_247.out;obtain ⟨hcz29_0,hfz29_0,hcz29_1,hfz29_1,hcz29_2,hfz29_2⟩:=zn3 BK247))
  refine bodyPost_ret (results_list (rs:=[.cell 8 43,.cell 9 24,.tmp 10]) rfl (by simp) (.cell gb246 43 #[.int .i64 0,.slice none 0 0] (0,0) _ rfl (zB BK246) Try.underlying43 rfl zk (.cell gb247 24 #[.int .i64 0,.int .i64 0,.int .i64 0] (0,0) _ rfl (zB BK247) Try.underlying24 rfl zk (.tmp .nil)))) rfl ?_;exact ⟨_,zX,by first|exact Kd.R_nil _ _ _ _ _|exact Kd.N_nil _ _ _ _ _|exact Kd.V_nil _ _ _ _ _|exact Kd.Q_nil _ _ _ _ _|exact Kd.S_nil _ _ _ _ _,zW HB⟩
 rw [if_pos c6] at H;have c6b0 : (t249 == 0)=true:=beq_iff_eq.mpr c6;have c6b1 : (t249 != 0)=false:=bne_eq_false_iff_eq.mpr c6;clear c6;replace H:=Option.bind_eq_some_iff.mp H;obtain ⟨⟨t252,t253,t256,t257,t258,t259⟩,A70,H⟩:=H
 try dsimp only at H
 have A7:=zo A70;clear A70;simp only [Option.some.injEq,Prod.mk.injEq] at H;obtain ⟨rfl,rfl,rfl,rfl,rfl,rfl⟩:=H
 go_enter Try.func16,Try.ntmps16
 go_wp2_with (first|((with_reducible refine gate_dst (N:=7) rfl ?_);refine box_event ?hg (N:=7) ?hd (cs:=#[.int .i64 a3_0,.int .i64 a3_1,.int .i64 a3_2]) (t:=24) ?hr ?_;(case hd=>rfl);(case hg=>rfl);(case hr=>first|(go_simp;done)|(go_simp;rfl));intro gb245 hg w8 hbox hb;have BK245:=zo hbox;have GW245:=zo (zS hg HB);have GE245:=zo (zS hg HB);replace HB:=zo (below_step (zW HB) hb);clear hb hbox hg)|((with_reducible refine gate_dst (N:=8) rfl ?_);refine box_event ?hg (N:=8) ?hd (cs:=#[.int .i64 0,.slice none 0 0]) (t:=43) ?hr ?_;(case hd=>rfl);(case hg=>rfl);(case hr=>first|(go_simp;done)|(go_simp;rfl));intro gb246 hg w9 hbox hb;have BK246:=zo hbox;have GW246:=zo (zS hg HB);have GE246:=zo (zS hg HB);replace HB:=zo (below_step (zW HB) hb);have NB245_246:=zo (zL hg BK245);have NB246_245:=zo (zG hg BK245);replace BK245:=zo (blk_below (zB BK245) hb);clear hb hbox hg)|((with_reducible refine gate_dst (N:=9) rfl ?_);refine box_event ?hg (N:=9) ?hd (cs:=#[.int .i64 0,.int .i64 0,.int .i64 0]) (t:=24) ?hr ?_;(case hd=>rfl);(case hg=>rfl);(case hr=>first|(go_simp;done)|(go_simp;rfl));intro gb247 hg w10 hbox hb;have BK247:=zo hbox;have GW247:=zo (zS hg HB);have GE247:=zo (zS hg HB);replace HB:=zo (below_step (zW HB) hb);have NB245_247:=zo (zL hg BK245);have NB247_245:=zo (zG hg BK245);replace BK245:=zo (blk_below (zB BK245) hb);have NB246_247:=zo (zL hg BK246);have NB247_246:=zo (zG hg BK246);replace BK246:=zo (blk_below (zB BK246) hb);clear hb hbox hg)|((with_reducible refine gate_callee (f:=14) rfl ?_);refine goesL_ (some 17) rfl rfl Try.func14 zk rfl #[.int .i64 a0,.int .i64 a1,.slice A2 l2.length c2] rfl zA ?_;(with_reducible refine (mixture_Sum.calls k a0 a1 _ _ l2 t248 t249 _ ?side1 ?side2 A5.out).mono ?_);(case side1=>repeat (first|exact (Kd.C_below HR2.out HB.out)|(with_reducible refine Kd.C_alloc ?_ _)|(with_reducible refine Kd.C_drewN ?_ _)|(with_reducible refine Kd.C_drew ?_)));(case side2=>exact HC2.out);rintro e w11 ⟨v250,rfl,ho0,hb⟩;refine ⟨_,rfl,?_⟩;have HO251:=zo (Kd.R_lower ho0 (below_size (zW HB)));replace BK245:=zo (blk_below (zB BK245) hb);replace BK246:=zo (blk_below (zB BK246) hb);replace BK247:=zo (blk_below (zB BK247) hb);replace HB:=zo (below_step (zW HB) hb);(try clear hb);(try clear ho0);have hnb12:=NB245_246.out;have hnc12:=NB246_245.out;have hnb13:=NB245_247.out;have hnc13:=NB247_245.out;obtain ⟨hcz14_0,hfz14_0,hcz14_1,hfz14_1,hcz14_2,hfz14_2⟩:=zn3 BK245;obtain ⟨Ao15,co15,eo15⟩:=Kd.R_slice HO251.out;subst eo15)|((with_reducible refine gate_callee (f:=36) rfl ?_);refine goesL_ (some 28) rfl rfl Try.func36 zk rfl #[.agg #[.int .i64 a3_0,.int .i64 a3_1,.int .i64 a3_2],.int .i64 a0,.slice Ao15 t248.length co15] rfl zA ?_;(with_reducible refine (limiter_Run.calls k a3_0 a3_1 a3_2 a0 _ _ t248 t252 t253 t256 t257 t258 t259 _ ?side1 ?side2 A7.out).mono ?_);(case side1=>repeat (first|exact (Kd.R_reads' HO251.out).2.2|(with_reducible refine Kd.C_alloc ?_ _)|(with_reducible refine Kd.C_drewN ?_ _)|(with_reducible refine Kd.C_drew ?_)));(case side2=>exact (Kd.R_reads' HO251.out).2.1);rintro e w16 ⟨v254,rfl,ho0,hb⟩;refine ⟨_,rfl,?_⟩;replace HO251:=zo (Kd.R_below (zR HO251) hb);have HO255:=zo (Kd.R_lower ho0 (below_size (zW HB)));replace BK245:=zo (blk_below (zB BK245) hb);replace BK246:=zo (blk_below (zB BK246) hb);replace BK247:=zo (blk_below (zB BK247) hb);replace HB:=zo (below_step (zW HB) hb);(try clear hb);(try clear ho0);have hnb17:=NB246_247.out;have hnc17:=NB247_246.out;obtain ⟨hcz18_0,hfz18_0,hcz18_1,hfz18_1⟩:=zn2 BK246;obtain ⟨Ao19,co19,eo19⟩:=Kd.R_slice HO255.out;subst eo19;obtain ⟨hcz20_0,hfz20_0,hcz20_1,hfz20_1,hcz20_2,hfz20_2⟩:=zn3 BK247))
 refine bodyPost_ret (results_list (rs:=[.cell 8 43,.cell 9 24,.tmp 10]) rfl (by simp) (.cell gb246 43 #[.int .i64 t252,.slice Ao19 t253.length co19] (0,0) _ rfl (zB BK246) Try.underlying43 rfl zk (.cell gb247 24 #[.int .i64 t256,.int .i64 t257,.int .i64 t258] (0,0) _ rfl (zB BK247) Try.underlying24 rfl zk (.tmp .nil)))) rfl ?_;exact ⟨_,zX,by (with_reducible repeat (first|apply Kd.R_alloc|apply Kd.R_drewN|apply Kd.R_drew));exact Kd.R_mono (Kd.R_far (p:=⟨gb247,2,none⟩) (Kd.R_far (p:=⟨gb247,1,none⟩) (Kd.R_far (p:=⟨gb247,0,none⟩) (Kd.R_far (p:=⟨gb246,1,none⟩) (Kd.R_far (p:=⟨gb246,0,none⟩) (Kd.R_types (Kd.R_types HO255.out BK246.out (by decide)) BK247.out (by decide)) (fun _ hk=>hk.1.2) (.int .i64 t252)) (fun _ hk=>hk.1.2) (.slice Ao19 t253.length co19)) (fun _ hk=>hk.2) (.int .i64 t256)) (fun _ hk=>hk.2) (.int .i64 t257)) (fun _ hk=>hk.2) (.int .i64 t258)) (fun _ hk=>trivial),zW HB⟩

def soundserviceref08_Valid.f (a0_0 : Int) (a0_1 : Int) (a0_2 : Int) : Option (Bool):=if a0_0 ≥ 1 then (if a0_0≤8388607 then (if a0_1 ≥ 1 then (if a0_1≤65536 then (if a0_2 ≥ 0 then (some (decide (a0_2≤65536))) else (some false)) else (some false)) else (some false)) else (some false)) else (some false)
set_option maxHeartbeats 8000000 in
set_option maxRecDepth 100000 in
theorem soundserviceref08_Valid.calls (a0_0 : Int) (a0_1 : Int) (a0_2 : Int) (r : Bool) (w : World) (h : soundserviceref08_Valid.f a0_0 a0_1 a0_2=some r) :
  Calls Try.prog 47 #[.agg #[.int .i64 a0_0,.int .i64 a0_1,.int .i64 a0_2]] w fun e w'=>e = .returned (.bool r)∧Below w.heap.size w w':=by
 have hu24:=Try.underlying24;have HB:=zo (Below.refl w.heap.size w);have H:=h;unfold soundserviceref08_Valid.f at H;clear h
 by_cases c2 : a0_0 ≥ 1
 rotate_left
 ·rw [if_neg c2] at H;have c2b0:=decide_eq_false c2;clear c2;obtain rfl:=Option.some.inj H
  go_enter Try.func47,Try.ntmps47
  go_wp2_with (first|((with_reducible refine gate_dst (N:=1) rfl ?_);refine box_event ?hg (N:=1) ?hd (cs:=#[.int .i64 a0_0,.int .i64 a0_1,.int .i64 a0_2]) (t:=24) ?hr ?_;(case hd=>rfl);(case hg=>rfl);(case hr=>first|(go_simp;done)|(go_simp;rfl));intro gb260 hg w17 hbox hb;have BK260:=zo hbox;have GW260:=zo (zS hg HB);have GE260:=zo (zS hg HB);replace HB:=zo (below_step (zW HB) hb);clear hb hbox hg;obtain ⟨hcz18_0,hfz18_0,hcz18_1,hfz18_1,hcz18_2,hfz18_2⟩:=zn3 BK260))
  go_ret
  exact ⟨zX,zW HB⟩
 rw [if_pos c2] at H;have c2b0:=decide_eq_true c2;clear c2
 by_cases c3 : a0_0≤8388607
 rotate_left
 ·rw [if_neg c3] at H;have c3b0:=decide_eq_false c3;clear c3;obtain rfl:=Option.some.inj H
  go_enter Try.func47,Try.ntmps47
  go_wp2_with (first|((with_reducible refine gate_dst (N:=1) rfl ?_);refine box_event ?hg (N:=1) ?hd (cs:=#[.int .i64 a0_0,.int .i64 a0_1,.int .i64 a0_2]) (t:=24) ?hr ?_;(case hd=>rfl);(case hg=>rfl);(case hr=>first|(go_simp;done)|(go_simp;rfl));intro gb260 hg w15 hbox hb;have BK260:=zo hbox;have GW260:=zo (zS hg HB);have GE260:=zo (zS hg HB);replace HB:=zo (below_step (zW HB) hb);clear hb hbox hg;obtain ⟨hcz16_0,hfz16_0,hcz16_1,hfz16_1,hcz16_2,hfz16_2⟩:=zn3 BK260))
  go_ret
  exact ⟨zX,zW HB⟩
 rw [if_pos c3] at H;have c3b0:=decide_eq_true c3;clear c3
 by_cases c4 : a0_1 ≥ 1
 rotate_left
 ·rw [if_neg c4] at H;have c4b0:=decide_eq_false c4;clear c4;obtain rfl:=Option.some.inj H
  go_enter Try.func47,Try.ntmps47
  go_wp2_with (first|((with_reducible refine gate_dst (N:=1) rfl ?_);refine box_event ?hg (N:=1) ?hd (cs:=#[.int .i64 a0_0,.int .i64 a0_1,.int .i64 a0_2]) (t:=24) ?hr ?_;(case hd=>rfl);(case hg=>rfl);(case hr=>first|(go_simp;done)|(go_simp;rfl));intro gb260 hg w13 hbox hb;have BK260:=zo hbox;have GW260:=zo (zS hg HB);have GE260:=zo (zS hg HB);replace HB:=zo (below_step (zW HB) hb);clear hb hbox hg;obtain ⟨hcz14_0,hfz14_0,hcz14_1,hfz14_1,hcz14_2,hfz14_2⟩:=zn3 BK260))
  go_ret
  exact ⟨zX,zW HB⟩
 rw [if_pos c4] at H;have c4b0:=decide_eq_true c4;clear c4
 by_cases c5 : a0_1≤65536
 rotate_left
 ·rw [if_neg c5] at H;have c5b0:=decide_eq_false c5;clear c5;obtain rfl:=Option.some.inj H
  go_enter Try.func47,Try.ntmps47
  go_wp2_with (first|((with_reducible refine gate_dst (N:=1) rfl ?_);refine box_event ?hg (N:=1) ?hd (cs:=#[.int .i64 a0_0,.int .i64 a0_1,.int .i64 a0_2]) (t:=24) ?hr ?_;(case hd=>rfl);(case hg=>rfl);(case hr=>first|(go_simp;done)|(go_simp;rfl));intro gb260 hg w11 hbox hb;have BK260:=zo hbox;have GW260:=zo (zS hg HB);have GE260:=zo (zS hg HB);replace HB:=zo (below_step (zW HB) hb);clear hb hbox hg;obtain ⟨hcz12_0,hfz12_0,hcz12_1,hfz12_1,hcz12_2,hfz12_2⟩:=zn3 BK260))
  go_ret
  exact ⟨zX,zW HB⟩
 rw [if_pos c5] at H;have c5b0:=decide_eq_true c5;clear c5
 by_cases c6 : a0_2 ≥ 0
 ·rw [if_pos c6] at H;have c6b0:=decide_eq_true c6;clear c6;obtain rfl:=Option.some.inj H
  go_enter Try.func47,Try.ntmps47
  go_wp2_with (first|((with_reducible refine gate_dst (N:=1) rfl ?_);refine box_event ?hg (N:=1) ?hd (cs:=#[.int .i64 a0_0,.int .i64 a0_1,.int .i64 a0_2]) (t:=24) ?hr ?_;(case hd=>rfl);(case hg=>rfl);(case hr=>first|(go_simp;done)|(go_simp;rfl));intro gb260 hg w7 hbox hb;have BK260:=zo hbox;have GW260:=zo (zS hg HB);have GE260:=zo (zS hg HB);replace HB:=zo (below_step (zW HB) hb);clear hb hbox hg;obtain ⟨hcz8_0,hfz8_0,hcz8_1,hfz8_1,hcz8_2,hfz8_2⟩:=zn3 BK260))
  go_ret
  exact ⟨zX,zW HB⟩
 rw [if_neg c6] at H;have c6b0:=decide_eq_false c6;clear c6;obtain rfl:=Option.some.inj H
 go_enter Try.func47,Try.ntmps47
 go_wp2_with (first|((with_reducible refine gate_dst (N:=1) rfl ?_);refine box_event ?hg (N:=1) ?hd (cs:=#[.int .i64 a0_0,.int .i64 a0_1,.int .i64 a0_2]) (t:=24) ?hr ?_;(case hd=>rfl);(case hg=>rfl);(case hr=>first|(go_simp;done)|(go_simp;rfl));intro gb260 hg w9 hbox hb;have BK260:=zo hbox;have GW260:=zo (zS hg HB);have GE260:=zo (zS hg HB);replace HB:=zo (below_step (zW HB) hb);clear hb hbox hg;obtain ⟨hcz10_0,hfz10_0,hcz10_1,hfz10_1,hcz10_2,hfz10_2⟩:=zn3 BK260))
 go_ret
 exact ⟨zX,zW HB⟩

def soundserviceref08_New.f (a0 : Int) (a1 : Int) : Option (Int×Int×Int×Int):=(soundserviceref08_Valid.f a0 a1 65536).bind fun t263=>(if t263=true then (some (a0,a1,65536,0)) else (some (0,0,0,2)))
set_option maxHeartbeats 8000000 in
set_option maxRecDepth 100000 in
theorem soundserviceref08_New.calls (a0 : Int) (a1 : Int) (r1 : Int) (r2 : Int) (r3 : Int) (r4 : Int) (w : World) (h : soundserviceref08_New.f a0 a1=some (r1,r2,r3,r4)) :
  Calls Try.prog 28 #[.int .i64 a0,.int .i64 a1] w fun e w'=>e = .returned (.tuple #[.agg #[.int .i64 r1,.int .i64 r2,.int .i64 r3],.int .i64 r4])∧Below w.heap.size w w':=by
 have hu24:=Try.underlying24;have HB:=zo (Below.refl w.heap.size w);have H:=h;unfold soundserviceref08_New.f at H;clear h;replace H:=Option.bind_eq_some_iff.mp H;obtain ⟨t263,A30,H⟩:=H
 try dsimp only at H
 have A3:=zo A30;clear A30
 by_cases c4 : t263=true
 ·subst c4;have H1:=H;rw [if_pos rfl] at H1;clear H;have H:=H1;clear H1;simp only [Option.some.injEq,Prod.mk.injEq] at H;obtain ⟨rfl,rfl,rfl,rfl⟩:=H
  go_enter Try.func28,Try.ntmps28
  go_wp2_with (first|((with_reducible refine gate_dst (N:=4) rfl ?_);refine box_event ?hg (N:=4) ?hd (cs:=#[.int .i64 0,.int .i64 0,.int .i64 0]) (t:=24) ?hr ?_;(case hd=>rfl);(case hg=>rfl);(case hr=>first|(go_simp;done)|(go_simp;rfl));intro gb261 hg w5 hbox hb;have BK261:=zo hbox;have GW261:=zo (zS hg HB);have GE261:=zo (zS hg HB);replace HB:=zo (below_step (zW HB) hb);clear hb hbox hg)|((with_reducible refine gate_dst (N:=6) rfl ?_);refine box_event ?hg (N:=6) ?hd (cs:=#[.int .i64 0,.int .i64 0,.int .i64 0]) (t:=24) ?hr ?_;(case hd=>rfl);(case hg=>rfl);(case hr=>first|(go_simp;done)|(go_simp;rfl));intro gb262 hg w6 hbox hb;have BK262:=zo hbox;have GW262:=zo (zS hg HB);have GE262:=zo (zS hg HB);replace HB:=zo (below_step (zW HB) hb);have NB261_262:=zo (zL hg BK261);have NB262_261:=zo (zG hg BK261);replace BK261:=zo (blk_below (zB BK261) hb);clear hb hbox hg;have hnb7:=NB262_261.out;have hnc7:=NB261_262.out;obtain ⟨hcz8_0,hfz8_0,hcz8_1,hfz8_1,hcz8_2,hfz8_2⟩:=zn3 BK262)|((with_reducible refine gate_callee (f:=47) rfl ?_);refine goesL_ (some 11) rfl rfl Try.func47 zk rfl #[.agg #[.int .i64 a0,.int .i64 a1,.int .i64 65536]] rfl zA ?_;(with_reducible refine (soundserviceref08_Valid.calls a0 a1 65536 true _ A3.out).mono ?_);rintro e w9 ⟨rfl,hb⟩;refine ⟨_,rfl,?_⟩;replace BK261:=zo (blk_below (zB BK261) hb);replace BK262:=zo (blk_below (g:=gb262) (o:=.cells #[.int .i64 a0,.int .i64 a1,.int .i64 65536] 24 (0,0)) (zB BK262) hb);replace HB:=zo (below_step (zW HB) hb);(try clear hb);obtain ⟨hcz10_0,hfz10_0,hcz10_1,hfz10_1,hcz10_2,hfz10_2⟩:=zn3 BK262;obtain ⟨hcz11_0,hfz11_0,hcz11_1,hfz11_1,hcz11_2,hfz11_2⟩:=zn3 BK261))
  refine bodyPost_ret (results_ct rfl _ _ gb261 24 #[.int .i64 a0,.int .i64 a1,.int .i64 65536] (0,0) _ rfl (zB BK261) Try.underlying24 rfl zk) rfl ?_;exact ⟨zX,zW HB⟩
 replace c4:=Bool.eq_false_iff.mpr c4;subst c4;have H1:=H;rw [if_neg (show ¬ (false=true) by decide)] at H1;clear H;have H:=H1;clear H1;simp only [Option.some.injEq,Prod.mk.injEq] at H;obtain ⟨rfl,rfl,rfl,rfl⟩:=H
 go_enter Try.func28,Try.ntmps28
 go_wp2_with (first|((with_reducible refine gate_dst (N:=4) rfl ?_);refine box_event ?hg (N:=4) ?hd (cs:=#[.int .i64 0,.int .i64 0,.int .i64 0]) (t:=24) ?hr ?_;(case hd=>rfl);(case hg=>rfl);(case hr=>first|(go_simp;done)|(go_simp;rfl));intro gb261 hg w12 hbox hb;have BK261:=zo hbox;have GW261:=zo (zS hg HB);have GE261:=zo (zS hg HB);replace HB:=zo (below_step (zW HB) hb);clear hb hbox hg)|((with_reducible refine gate_dst (N:=6) rfl ?_);refine box_event ?hg (N:=6) ?hd (cs:=#[.int .i64 0,.int .i64 0,.int .i64 0]) (t:=24) ?hr ?_;(case hd=>rfl);(case hg=>rfl);(case hr=>first|(go_simp;done)|(go_simp;rfl));intro gb262 hg w13 hbox hb;have BK262:=zo hbox;have GW262:=zo (zS hg HB);have GE262:=zo (zS hg HB);replace HB:=zo (below_step (zW HB) hb);have NB261_262:=zo (zL hg BK261);have NB262_261:=zo (zG hg BK261);replace BK261:=zo (blk_below (zB BK261) hb);clear hb hbox hg;have hnb14:=NB262_261.out;have hnc14:=NB261_262.out;obtain ⟨hcz15_0,hfz15_0,hcz15_1,hfz15_1,hcz15_2,hfz15_2⟩:=zn3 BK262)|((with_reducible refine gate_callee (f:=47) rfl ?_);refine goesL_ (some 11) rfl rfl Try.func47 zk rfl #[.agg #[.int .i64 a0,.int .i64 a1,.int .i64 65536]] rfl zA ?_;(with_reducible refine (soundserviceref08_Valid.calls a0 a1 65536 false _ A3.out).mono ?_);rintro e w16 ⟨rfl,hb⟩;refine ⟨_,rfl,?_⟩;replace BK261:=zo (blk_below (zB BK261) hb);replace BK262:=zo (blk_below (g:=gb262) (o:=.cells #[.int .i64 a0,.int .i64 a1,.int .i64 65536] 24 (0,0)) (zB BK262) hb);replace HB:=zo (below_step (zW HB) hb);(try clear hb);obtain ⟨hcz17_0,hfz17_0,hcz17_1,hfz17_1,hcz17_2,hfz17_2⟩:=zn3 BK261))
 refine bodyPost_ret (results_ct rfl _ _ gb261 24 #[.int .i64 0,.int .i64 0,.int .i64 0] (0,0) _ rfl (zB BK261) Try.underlying24 rfl zk) rfl ?_;exact ⟨zX,zW HB⟩

end Go.Proofs.Ytcnmemcclhahnaa.QT
