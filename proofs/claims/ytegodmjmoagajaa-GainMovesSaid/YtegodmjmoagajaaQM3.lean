-- Written by a program of this session, out of the seat's translation; checked by the kernel alone.
import Derived.Test.YtegodmjmoagajaaQM0
import Derived.Test.YtegodmjmoagajaaQM1
namespace Go.Proofs.Ytegodmjmoagajaa.QM
open Go.RowKit Go.Proofs.YtegodmjmoagajaaW.PrintWords Go.Proofs.YtegodmjmoagajaaW.PrintLast Go.Proofs.YtegodmjmoagajaaW.PrintMore
attribute [local go_sem] max2_int min2_int max_two min_two max_three min_three max_four min_four   -- for this text's walks alone
set_option linter.unusedVariables false
set_option linter.unusedSimpArgs false

/-! ### soundservicemade_New: function 21 -/
def soundservicemade_New.f (l0 : List Int) : Option (List Int):=if 0≤(mn (l0.length : Int) 300) then (if (mn (l0.length : Int) 300)≤(l0.length : Int) then (some (l0.take ((mn (l0.length : Int) 300) : Int).toNat)) else (none)) else (none)
set_option maxHeartbeats 8000000 in
set_option maxRecDepth 100000 in
theorem soundservicemade_New.calls (A0 : Option Addr) (c0 : Nat) (l0 : List Int) (r : List Int) (w0 w : World) (hB : Below w0.heap.size w0 w) (hr0 : Kd.C (Kd.int .u8) w0 A0 l0.length l0) (hc0 : l0.length≤c0) (h : soundservicemade_New.f l0=some r) :
  Calls Try.prog 21 #[.slice A0 l0.length c0] w fun e w'=>∃ g_ : Nat,e = .returned (.pointer (some ⟨g_,0,none⟩))∧IsS65 w0 w' g_ r∧Below w0.heap.size w0 w'∧Below w.heap.size w w'∧w.heap.size≤g_:=by
 have hu65:=Try.underlying65
 have HR0:=Aside0.mk hr0
 have HC0:=Aside0.mk hc0
 clear hr0 hc0
 have HBW:=Aside0.mk (Below.refl w.heap.size w)
 have HW0:=Aside0.mk hB.size
 have HB:=Aside0.mk hB
 clear hB
 have H : (if 0≤(mn (l0.length : Int) 300) then (if (mn (l0.length : Int) 300)≤(l0.length : Int) then (some (l0.take ((mn (l0.length : Int) 300) : Int).toNat)) else (none)) else (none))=some r:=h
 clear h
 obtain ⟨ji2,hji2⟩ : ∃ j_ : Int,(mn (l0.length : Int) 300)=j_:=⟨_,rfl⟩
 replace H : (if 0≤(ji2) then (if (ji2)≤(l0.length : Int) then (some (l0.take ((ji2) : Int).toNat)) else (none)) else (none))=some r:=by first|(rw [hji2] at H;exact H)|(simp only [hji2] at H ⊢;exact H)
 (try (have hji2h : ji2≤300:=by (rw [← hji2];unfold mn;(repeat' split) <;> omega)))
 (try (have hji2g : ji2≤64:=by omega))
 (try (have hji2l : 0≤ji2:=by (rw [← hji2];unfold mn;(repeat' split) <;> omega)))
 (try (have hji2m : 0≤ji2:=by omega))
 have hji2_ : (if 300<(l0.length : Int) then 300 else (l0.length : Int))=ji2:=hji2
 by_cases c3 : 0≤(ji2)
 rotate_left
 ·rw [if_neg c3] at H
  exact absurd H (by simp)
 rw [if_pos c3] at H
 have c3b0:=eq_true c3
 have c3b1 : decide (0≤(ji2))=true:=decide_eq_true c3
 clear c3
 by_cases c4 : (ji2)≤(l0.length : Int)
 rotate_left
 ·rw [if_neg c4] at H
  exact absurd H (by simp)
 rw [if_pos c4] at H
 have c4b0:=eq_true c4
 have c4b1 : decide ((ji2)≤(l0.length : Int))=true:=decide_eq_true c4
 clear c4
 obtain rfl:=Option.some.inj H
 obtain ⟨i05,hi05,_,hsz5,_⟩:=info_parts info5
 obtain ⟨hcut5,hA5,hC5⟩:=print_take_of (P:=Try.prog) (Value.int .u8) 0 36 5 .i64 Try.underlying36 hi05 hsz5 A0 c0 l0 (ji2) (zD) (zD) HC0.out
 have HR137:=Aside0.mk (Kd.C_of_reads (h1:=fun _=>rfl) (hA5 _ (Kd.reads_of_C HR0.out)))
 have HC137:=Aside0.mk hC5
 clear hA5 hC5 hi05 hsz5
 have HSL5:=Aside0.mk (show (l0.take ((ji2) : Int).toNat).length=(ji2).toNat from (by rw [List.length_take];have h_ : ((ji2) : Int)≤(l0.length : Int):=zD;omega))
 go_enter Try.func21,Try.ntmps21
 go_wp2_with (first|((with_reducible refine gate_dst (N:=9) rfl ?_);refine box_event ?hg (N:=9) ?hd (cs:=#[.slice A0 (l0.take ((ji2) : Int).toNat).length c0]) (t:=65) ?hr ?_;(case hd=>rfl);(case hg=>rfl);(case hr=>first|(go_simp;done)|(go_simp;rfl));intro gb138 hg w6 hbox hb;replace HB:=Aside0.mk (below_step (zW HB) hb);have BK138:=Aside0.mk hbox;have GW138:=Aside0.mk ((by rw [hg];exact (below_size (by repeat (first|(with_reducible first|exact HBW.out|apply below_alloc|apply pw_below_drewN|apply below_drew1)|exact HBW.out))) : w.heap.size≤gb138));have GE138:=Aside0.mk ((Nat.le_trans HW0.out (by rw [hg];exact (below_size (by repeat (first|(with_reducible first|exact HBW.out|apply below_alloc|apply pw_below_drewN|apply below_drew1)|exact HBW.out))) : w.heap.size≤gb138) : w0.heap.size≤gb138));replace HBW:=Aside0.mk (below_step HBW.out hb);clear hb hbox hg))
 go_ret
 exact ⟨_,rfl,(show IsS65 w0 _ gb138 (l0.take ((ji2) : Int).toNat) from ⟨_,_,zB BK138,GE138.out,⟨HR137.out,HC137.out⟩⟩),by repeat (first|(with_reducible first|exact HB.out|apply below_alloc|apply pw_below_drewN|apply below_drew1|refine below_set ?_ GE138.out)|exact HB.out),by repeat (first|(with_reducible first|exact HBW.out|apply below_alloc|apply pw_below_drewN|apply below_drew1|refine below_set ?_ GW138.out)|exact HBW.out),GW138.out⟩

/-! ### gain_Retarget: function 24 -/
def gain_Retarget.f (a0_0 : Int) (a0_1 : Int) (a0_2 : Int) (a0_3 : Int) (a1 : Int) (a2 : Int) : Option (Int×Int×Int×Int×Int):=(gain_slope_valid.f a0_0 a0_1 a0_2 a0_3).bind fun t142=>(if t142=true then ((gain_is.f a1).bind fun t143=>(if t143=true then (if a2<0 then (some (0,0,0,0,1)) else (if a2>4194304 then (some (0,0,0,0,1)) else ((gain_slope_gain.f a0_0 a0_1 a0_2 a0_3 0).bind fun t144=>(some (t144,a1,a2,0,0))))) else (some (0,0,0,0,1)))) else (some (0,0,0,0,1)))
set_option maxHeartbeats 8000000 in
set_option maxRecDepth 100000 in
theorem gain_Retarget.calls (a0_0 : Int) (a0_1 : Int) (a0_2 : Int) (a0_3 : Int) (a1 : Int) (a2 : Int) (r1 : Int) (r2 : Int) (r3 : Int) (r4 : Int) (r5 : Int) (w : World) (h : gain_Retarget.f a0_0 a0_1 a0_2 a0_3 a1 a2=some (r1,r2,r3,r4,r5)) :
  Calls Try.prog 24 #[.agg #[.int .i64 a0_0,.int .i64 a0_1,.int .i64 a0_2,.int .i64 a0_3],.int .i64 a1,.int .i64 a2] w fun e w'=>e = .returned (.tuple #[.agg #[.int .i64 r1,.int .i64 r2,.int .i64 r3,.int .i64 r4],.int .i64 r5])∧Below w.heap.size w w':=by
 have hu35:=Try.underlying35
 have hu67:=Try.underlying67
 have HB:=Aside0.mk (Below.refl w.heap.size w)
 have H : ((gain_slope_valid.f a0_0 a0_1 a0_2 a0_3).bind fun t142=>(if t142=true then ((gain_is.f a1).bind fun t143=>(if t143=true then (if a2<0 then (some (0,0,0,0,1)) else (if a2>4194304 then (some (0,0,0,0,1)) else ((gain_slope_gain.f a0_0 a0_1 a0_2 a0_3 0).bind fun t144=>(some (t144,a1,a2,0,0))))) else (some (0,0,0,0,1)))) else (some (0,0,0,0,1))))=some (r1,r2,r3,r4,r5):=h
 clear h
 replace H:=Option.bind_eq_some_iff.mp H
 obtain ⟨t142,A40,H⟩:=H
 replace H : (if t142=true then ((gain_is.f a1).bind fun t143=>(if t143=true then (if a2<0 then (some (0,0,0,0,1)) else (if a2>4194304 then (some (0,0,0,0,1)) else ((gain_slope_gain.f a0_0 a0_1 a0_2 a0_3 0).bind fun t144=>(some (t144,a1,a2,0,0))))) else (some (0,0,0,0,1)))) else (some (0,0,0,0,1)))=some (r1,r2,r3,r4,r5):=H
 have A4:=Aside0.mk A40
 clear A40
 by_cases c5 : t142=true
 rotate_left
 ·replace c5:=Bool.eq_false_iff.mpr c5
  subst c5
  have H1 : (some (0,0,0,0,1))=some (r1,r2,r3,r4,r5):=by rw [if_neg (show ¬ (false=true) by decide)] at H;exact H
  clear H
  have H:=H1
  clear H1
  simp only [Option.some.injEq,Prod.mk.injEq] at H
  obtain ⟨rfl,rfl,rfl,rfl,rfl⟩:=H
  go_enter Try.func24,Try.ntmps24
  go_wp2_with (first|((with_reducible refine gate_dst (N:=3) rfl ?_);refine box_event ?hg (N:=3) ?hd (cs:=#[.int .i64 a0_0,.int .i64 a0_1,.int .i64 a0_2,.int .i64 a0_3]) (t:=35) ?hr ?_;(case hd=>rfl);(case hg=>rfl);(case hr=>first|(go_simp;done)|(go_simp;rfl));intro gb139 hg w53 hbox hb;have BK139:=Aside0.mk hbox;have GW139:=Aside0.mk (zS hg HB);have GE139:=Aside0.mk (zS hg HB);replace HB:=Aside0.mk (below_step (zW HB) hb);clear hb hbox hg)|((with_reducible refine gate_dst (N:=6) rfl ?_);refine box_event ?hg (N:=6) ?hd (cs:=#[.int .i64 0,.int .i64 0,.int .i64 0,.int .i64 0]) (t:=35) ?hr ?_;(case hd=>rfl);(case hg=>rfl);(case hr=>first|(go_simp;done)|(go_simp;rfl));intro gb140 hg w54 hbox hb;have BK140:=Aside0.mk hbox;have GW140:=Aside0.mk (zS hg HB);have GE140:=Aside0.mk (zS hg HB);replace HB:=Aside0.mk (below_step (zW HB) hb);have NB139_140:=Aside0.mk (zL hg BK139);have NB140_139:=Aside0.mk (zG hg BK139);replace BK139:=Aside0.mk (blk_below (zB BK139) hb);clear hb hbox hg;have hnb55:=NB139_140.out;have hnc55:=NB140_139.out;have hcz56_0:=zc BK139 0 (.int .i64 a0_0) rfl;have hcz56_1:=zc BK139 1 (.int .i64 a0_1) rfl;have hcz56_2:=zc BK139 2 (.int .i64 a0_2) rfl;have hcz56_3:=zc BK139 3 (.int .i64 a0_3) rfl;have hfz56_0:=blk_frozen BK139.out 0;have hfz56_1:=blk_frozen BK139.out 1;have hfz56_2:=blk_frozen BK139.out 2;have hfz56_3:=blk_frozen BK139.out 3)|((with_reducible refine gate_dst (N:=8) rfl ?_);refine box_event ?hg (N:=8) ?hd (cs:=#[.int .i64 0,.int .i64 0,.int .i64 0,.int .i64 0]) (t:=67) ?hr ?_;(case hd=>rfl);(case hg=>rfl);(case hr=>first|(go_simp;done)|(go_simp;rfl));intro gb141 hg w57 hbox hb;have BK141:=Aside0.mk hbox;have GW141:=Aside0.mk (zS hg HB);have GE141:=Aside0.mk (zS hg HB);replace HB:=Aside0.mk (below_step (zW HB) hb);have NB139_141:=Aside0.mk (zL hg BK139);have NB141_139:=Aside0.mk (zG hg BK139);replace BK139:=Aside0.mk (blk_below (zB BK139) hb);have NB140_141:=Aside0.mk (zL hg BK140);have NB141_140:=Aside0.mk (zG hg BK140);replace BK140:=Aside0.mk (blk_below (zB BK140) hb);clear hb hbox hg;have hnb58:=NB141_139.out;have hnc58:=NB139_141.out;have hnb59:=NB141_140.out;have hnc59:=NB140_141.out;have hcz60_0:=zc BK141 0 (.int .i64 0) rfl;have hcz60_1:=zc BK141 1 (.int .i64 0) rfl;have hcz60_2:=zc BK141 2 (.int .i64 0) rfl;have hcz60_3:=zc BK141 3 (.int .i64 0) rfl;have hfz60_0:=blk_frozen BK141.out 0;have hfz60_1:=blk_frozen BK141.out 1;have hfz60_2:=blk_frozen BK141.out 2;have hfz60_3:=blk_frozen BK141.out 3)|((with_reducible refine gate_callee (f:=39) rfl ?_);refine goesL_ (some 12) rfl rfl Try.func39 zk rfl #[.agg #[.int .i64 a0_0,.int .i64 a0_1,.int .i64 a0_2,.int .i64 a0_3]] rfl zA ?_;(with_reducible refine (gain_slope_valid.calls a0_0 a0_1 a0_2 a0_3 false _ A4.out).mono ?_);rintro e w61 ⟨rfl,hb⟩;refine ⟨_,rfl,?_⟩;replace BK139:=Aside0.mk (blk_below (zB BK139) hb);replace BK140:=Aside0.mk (blk_below (zB BK140) hb);replace BK141:=Aside0.mk (blk_below (g:=gb141) (o:=.cells #[.int .i64 a0_0,.int .i64 a0_1,.int .i64 a0_2,.int .i64 a0_3] 67 (0,0)) (zB BK141) hb);replace HB:=Aside0.mk (below_step (zW HB) hb);(try clear hb);have hcz62_0:=zc BK140 0 (.int .i64 0) rfl;have hcz62_1:=zc BK140 1 (.int .i64 0) rfl;have hcz62_2:=zc BK140 2 (.int .i64 0) rfl;have hcz62_3:=zc BK140 3 (.int .i64 0) rfl;have hfz62_0:=blk_frozen BK140.out 0;have hfz62_1:=blk_frozen BK140.out 1;have hfz62_2:=blk_frozen BK140.out 2;have hfz62_3:=blk_frozen BK140.out 3))
  refine bodyPost_ret (results_ct rfl _ _ gb140 35 #[.int .i64 0,.int .i64 0,.int .i64 0,.int .i64 0] (0,0) _ rfl (zB BK140) Try.underlying35 rfl zk) rfl ?_
  exact ⟨zX,zW HB⟩
 subst c5
 have H1 : ((gain_is.f a1).bind fun t143=>(if t143=true then (if a2<0 then (some (0,0,0,0,1)) else (if a2>4194304 then (some (0,0,0,0,1)) else ((gain_slope_gain.f a0_0 a0_1 a0_2 a0_3 0).bind fun t144=>(some (t144,a1,a2,0,0))))) else (some (0,0,0,0,1))))=some (r1,r2,r3,r4,r5):=by rw [if_pos rfl] at H;exact H
 clear H
 have H:=H1
 clear H1
 replace H:=Option.bind_eq_some_iff.mp H
 obtain ⟨t143,A60,H⟩:=H
 replace H : (if t143=true then (if a2<0 then (some (0,0,0,0,1)) else (if a2>4194304 then (some (0,0,0,0,1)) else ((gain_slope_gain.f a0_0 a0_1 a0_2 a0_3 0).bind fun t144=>(some (t144,a1,a2,0,0))))) else (some (0,0,0,0,1)))=some (r1,r2,r3,r4,r5):=H
 have A6:=Aside0.mk A60
 clear A60
 by_cases c7 : t143=true
 rotate_left
 ·replace c7:=Bool.eq_false_iff.mpr c7
  subst c7
  have H1 : (some (0,0,0,0,1))=some (r1,r2,r3,r4,r5):=by rw [if_neg (show ¬ (false=true) by decide)] at H;exact H
  clear H
  have H:=H1
  clear H1
  simp only [Option.some.injEq,Prod.mk.injEq] at H
  obtain ⟨rfl,rfl,rfl,rfl,rfl⟩:=H
  go_enter Try.func24,Try.ntmps24
  go_wp2_with (first|((with_reducible refine gate_dst (N:=3) rfl ?_);refine box_event ?hg (N:=3) ?hd (cs:=#[.int .i64 a0_0,.int .i64 a0_1,.int .i64 a0_2,.int .i64 a0_3]) (t:=35) ?hr ?_;(case hd=>rfl);(case hg=>rfl);(case hr=>first|(go_simp;done)|(go_simp;rfl));intro gb139 hg w43 hbox hb;have BK139:=Aside0.mk hbox;have GW139:=Aside0.mk (zS hg HB);have GE139:=Aside0.mk (zS hg HB);replace HB:=Aside0.mk (below_step (zW HB) hb);clear hb hbox hg)|((with_reducible refine gate_dst (N:=6) rfl ?_);refine box_event ?hg (N:=6) ?hd (cs:=#[.int .i64 0,.int .i64 0,.int .i64 0,.int .i64 0]) (t:=35) ?hr ?_;(case hd=>rfl);(case hg=>rfl);(case hr=>first|(go_simp;done)|(go_simp;rfl));intro gb140 hg w44 hbox hb;have BK140:=Aside0.mk hbox;have GW140:=Aside0.mk (zS hg HB);have GE140:=Aside0.mk (zS hg HB);replace HB:=Aside0.mk (below_step (zW HB) hb);have NB139_140:=Aside0.mk (zL hg BK139);have NB140_139:=Aside0.mk (zG hg BK139);replace BK139:=Aside0.mk (blk_below (zB BK139) hb);clear hb hbox hg;have hnb45:=NB139_140.out;have hnc45:=NB140_139.out;have hcz46_0:=zc BK139 0 (.int .i64 a0_0) rfl;have hcz46_1:=zc BK139 1 (.int .i64 a0_1) rfl;have hcz46_2:=zc BK139 2 (.int .i64 a0_2) rfl;have hcz46_3:=zc BK139 3 (.int .i64 a0_3) rfl;have hfz46_0:=blk_frozen BK139.out 0;have hfz46_1:=blk_frozen BK139.out 1;have hfz46_2:=blk_frozen BK139.out 2;have hfz46_3:=blk_frozen BK139.out 3)|((with_reducible refine gate_dst (N:=8) rfl ?_);refine box_event ?hg (N:=8) ?hd (cs:=#[.int .i64 0,.int .i64 0,.int .i64 0,.int .i64 0]) (t:=67) ?hr ?_;(case hd=>rfl);(case hg=>rfl);(case hr=>first|(go_simp;done)|(go_simp;rfl));intro gb141 hg w47 hbox hb;have BK141:=Aside0.mk hbox;have GW141:=Aside0.mk (zS hg HB);have GE141:=Aside0.mk (zS hg HB);replace HB:=Aside0.mk (below_step (zW HB) hb);have NB139_141:=Aside0.mk (zL hg BK139);have NB141_139:=Aside0.mk (zG hg BK139);replace BK139:=Aside0.mk (blk_below (zB BK139) hb);have NB140_141:=Aside0.mk (zL hg BK140);have NB141_140:=Aside0.mk (zG hg BK140);replace BK140:=Aside0.mk (blk_below (zB BK140) hb);clear hb hbox hg;have hnb48:=NB141_139.out;have hnc48:=NB139_141.out;have hnb49:=NB141_140.out;have hnc49:=NB140_141.out;have hcz50_0:=zc BK141 0 (.int .i64 0) rfl;have hcz50_1:=zc BK141 1 (.int .i64 0) rfl;have hcz50_2:=zc BK141 2 (.int .i64 0) rfl;have hcz50_3:=zc BK141 3 (.int .i64 0) rfl;have hfz50_0:=blk_frozen BK141.out 0;have hfz50_1:=blk_frozen BK141.out 1;have hfz50_2:=blk_frozen BK141.out 2;have hfz50_3:=blk_frozen BK141.out 3)|((with_reducible refine gate_callee (f:=39) rfl ?_);refine goesL_ (some 12) rfl rfl Try.func39 zk rfl #[.agg #[.int .i64 a0_0,.int .i64 a0_1,.int .i64 a0_2,.int .i64 a0_3]] rfl zA ?_;(with_reducible refine (gain_slope_valid.calls a0_0 a0_1 a0_2 a0_3 true _ A4.out).mono ?_);rintro e w51 ⟨rfl,hb⟩;refine ⟨_,rfl,?_⟩;replace BK139:=Aside0.mk (blk_below (zB BK139) hb);replace BK140:=Aside0.mk (blk_below (zB BK140) hb);replace BK141:=Aside0.mk (blk_below (g:=gb141) (o:=.cells #[.int .i64 a0_0,.int .i64 a0_1,.int .i64 a0_2,.int .i64 a0_3] 67 (0,0)) (zB BK141) hb);replace HB:=Aside0.mk (below_step (zW HB) hb);(try clear hb))|(go_at_call 36;(with_reducible refine (gain_is.calls a1 false _ A6.out).mono ?_);rintro e w' ⟨rfl,⟨nd,rfl⟩⟩;(try (rw [drewN_self w51];generalize hq_ : World.drewN w51 _=w51;have n0_ : Aside0 (w51.heap[gb139]?=some (.cells #[.int .i64 a0_0,.int .i64 a0_1,.int .i64 a0_2,.int .i64 a0_3] 35 (0,0))):=⟨by rw [← hq_];exact (zB BK139)⟩;have n1_ : Aside0 (w51.heap[gb140]?=some (.cells #[.int .i64 0,.int .i64 0,.int .i64 0,.int .i64 0] 35 (0,0))):=⟨by rw [← hq_];exact (zB BK140)⟩;have n2_ : Aside0 (w51.heap[gb141]?=some (.cells #[.int .i64 a0_0,.int .i64 a0_1,.int .i64 a0_2,.int .i64 a0_3] 67 (0,0))):=⟨by rw [← hq_];exact (zB BK141)⟩;have n3_ : Aside0 (Below w.heap.size w w51):=⟨by rw [← hq_];exact (zW HB)⟩;clear BK139 BK140 BK141 HB hq_;have BK139:=n0_;have BK140:=n1_;have BK141:=n2_;have HB:=n3_;clear n0_ n1_ n2_ n3_));have hcz52_0:=zc BK140 0 (.int .i64 0) rfl;have hcz52_1:=zc BK140 1 (.int .i64 0) rfl;have hcz52_2:=zc BK140 2 (.int .i64 0) rfl;have hcz52_3:=zc BK140 3 (.int .i64 0) rfl;have hfz52_0:=blk_frozen BK140.out 0;have hfz52_1:=blk_frozen BK140.out 1;have hfz52_2:=blk_frozen BK140.out 2;have hfz52_3:=blk_frozen BK140.out 3))
  refine bodyPost_ret (results_ct rfl _ _ gb140 35 #[.int .i64 0,.int .i64 0,.int .i64 0,.int .i64 0] (0,0) _ rfl (zB BK140) Try.underlying35 rfl zk) rfl ?_
  exact ⟨zX,zW HB⟩
 subst c7
 have H1 : (if a2<0 then (some (0,0,0,0,1)) else (if a2>4194304 then (some (0,0,0,0,1)) else ((gain_slope_gain.f a0_0 a0_1 a0_2 a0_3 0).bind fun t144=>(some (t144,a1,a2,0,0)))))=some (r1,r2,r3,r4,r5):=by rw [if_pos rfl] at H;exact H
 clear H
 have H:=H1
 clear H1
 by_cases c8 : a2<0
 ·rw [if_pos c8] at H
  have c8b0 : decide (a2<0)=true:=decide_eq_true c8
  clear c8
  simp only [Option.some.injEq,Prod.mk.injEq] at H
  obtain ⟨rfl,rfl,rfl,rfl,rfl⟩:=H
  go_enter Try.func24,Try.ntmps24
  go_wp2_with (first|((with_reducible refine gate_dst (N:=3) rfl ?_);refine box_event ?hg (N:=3) ?hd (cs:=#[.int .i64 a0_0,.int .i64 a0_1,.int .i64 a0_2,.int .i64 a0_3]) (t:=35) ?hr ?_;(case hd=>rfl);(case hg=>rfl);(case hr=>first|(go_simp;done)|(go_simp;rfl));intro gb139 hg w9 hbox hb;have BK139:=Aside0.mk hbox;have GW139:=Aside0.mk (zS hg HB);have GE139:=Aside0.mk (zS hg HB);replace HB:=Aside0.mk (below_step (zW HB) hb);clear hb hbox hg)|((with_reducible refine gate_dst (N:=6) rfl ?_);refine box_event ?hg (N:=6) ?hd (cs:=#[.int .i64 0,.int .i64 0,.int .i64 0,.int .i64 0]) (t:=35) ?hr ?_;(case hd=>rfl);(case hg=>rfl);(case hr=>first|(go_simp;done)|(go_simp;rfl));intro gb140 hg w10 hbox hb;have BK140:=Aside0.mk hbox;have GW140:=Aside0.mk (zS hg HB);have GE140:=Aside0.mk (zS hg HB);replace HB:=Aside0.mk (below_step (zW HB) hb);have NB139_140:=Aside0.mk (zL hg BK139);have NB140_139:=Aside0.mk (zG hg BK139);replace BK139:=Aside0.mk (blk_below (zB BK139) hb);clear hb hbox hg;have hnb11:=NB139_140.out;have hnc11:=NB140_139.out;have hcz12_0:=zc BK139 0 (.int .i64 a0_0) rfl;have hcz12_1:=zc BK139 1 (.int .i64 a0_1) rfl;have hcz12_2:=zc BK139 2 (.int .i64 a0_2) rfl;have hcz12_3:=zc BK139 3 (.int .i64 a0_3) rfl;have hfz12_0:=blk_frozen BK139.out 0;have hfz12_1:=blk_frozen BK139.out 1;have hfz12_2:=blk_frozen BK139.out 2;have hfz12_3:=blk_frozen BK139.out 3)|((with_reducible refine gate_dst (N:=8) rfl ?_);refine box_event ?hg (N:=8) ?hd (cs:=#[.int .i64 0,.int .i64 0,.int .i64 0,.int .i64 0]) (t:=67) ?hr ?_;(case hd=>rfl);(case hg=>rfl);(case hr=>first|(go_simp;done)|(go_simp;rfl));intro gb141 hg w13 hbox hb;have BK141:=Aside0.mk hbox;have GW141:=Aside0.mk (zS hg HB);have GE141:=Aside0.mk (zS hg HB);replace HB:=Aside0.mk (below_step (zW HB) hb);have NB139_141:=Aside0.mk (zL hg BK139);have NB141_139:=Aside0.mk (zG hg BK139);replace BK139:=Aside0.mk (blk_below (zB BK139) hb);have NB140_141:=Aside0.mk (zL hg BK140);have NB141_140:=Aside0.mk (zG hg BK140);replace BK140:=Aside0.mk (blk_below (zB BK140) hb);clear hb hbox hg;have hnb14:=NB141_139.out;have hnc14:=NB139_141.out;have hnb15:=NB141_140.out;have hnc15:=NB140_141.out;have hcz16_0:=zc BK141 0 (.int .i64 0) rfl;have hcz16_1:=zc BK141 1 (.int .i64 0) rfl;have hcz16_2:=zc BK141 2 (.int .i64 0) rfl;have hcz16_3:=zc BK141 3 (.int .i64 0) rfl;have hfz16_0:=blk_frozen BK141.out 0;have hfz16_1:=blk_frozen BK141.out 1;have hfz16_2:=blk_frozen BK141.out 2;have hfz16_3:=blk_frozen BK141.out 3)|((with_reducible refine gate_callee (f:=39) rfl ?_);refine goesL_ (some 12) rfl rfl Try.func39 zk rfl #[.agg #[.int .i64 a0_0,.int .i64 a0_1,.int .i64 a0_2,.int .i64 a0_3]] rfl zA ?_;(with_reducible refine (gain_slope_valid.calls a0_0 a0_1 a0_2 a0_3 true _ A4.out).mono ?_);rintro e w17 ⟨rfl,hb⟩;refine ⟨_,rfl,?_⟩;replace BK139:=Aside0.mk (blk_below (zB BK139) hb);replace BK140:=Aside0.mk (blk_below (zB BK140) hb);replace BK141:=Aside0.mk (blk_below (g:=gb141) (o:=.cells #[.int .i64 a0_0,.int .i64 a0_1,.int .i64 a0_2,.int .i64 a0_3] 67 (0,0)) (zB BK141) hb);replace HB:=Aside0.mk (below_step (zW HB) hb);(try clear hb))|(go_at_call 36;(with_reducible refine (gain_is.calls a1 true _ A6.out).mono ?_);rintro e w' ⟨rfl,⟨nd,rfl⟩⟩;(try (rw [drewN_self w17];generalize hq_ : World.drewN w17 _=w17;have n0_ : Aside0 (w17.heap[gb139]?=some (.cells #[.int .i64 a0_0,.int .i64 a0_1,.int .i64 a0_2,.int .i64 a0_3] 35 (0,0))):=⟨by rw [← hq_];exact (zB BK139)⟩;have n1_ : Aside0 (w17.heap[gb140]?=some (.cells #[.int .i64 0,.int .i64 0,.int .i64 0,.int .i64 0] 35 (0,0))):=⟨by rw [← hq_];exact (zB BK140)⟩;have n2_ : Aside0 (w17.heap[gb141]?=some (.cells #[.int .i64 a0_0,.int .i64 a0_1,.int .i64 a0_2,.int .i64 a0_3] 67 (0,0))):=⟨by rw [← hq_];exact (zB BK141)⟩;have n3_ : Aside0 (Below w.heap.size w w17):=⟨by rw [← hq_];exact (zW HB)⟩;clear BK139 BK140 BK141 HB hq_;have BK139:=n0_;have BK140:=n1_;have BK141:=n2_;have HB:=n3_;clear n0_ n1_ n2_ n3_));have hcz18_0:=zc BK140 0 (.int .i64 0) rfl;have hcz18_1:=zc BK140 1 (.int .i64 0) rfl;have hcz18_2:=zc BK140 2 (.int .i64 0) rfl;have hcz18_3:=zc BK140 3 (.int .i64 0) rfl;have hfz18_0:=blk_frozen BK140.out 0;have hfz18_1:=blk_frozen BK140.out 1;have hfz18_2:=blk_frozen BK140.out 2;have hfz18_3:=blk_frozen BK140.out 3))
  refine bodyPost_ret (results_ct rfl _ _ gb140 35 #[.int .i64 0,.int .i64 0,.int .i64 0,.int .i64 0] (0,0) _ rfl (zB BK140) Try.underlying35 rfl zk) rfl ?_
  exact ⟨zX,zW HB⟩
 rw [if_neg c8] at H
 have c8b0 : decide (a2<0)=false:=decide_eq_false c8
 clear c8
 by_cases c19 : a2>4194304
 ·rw [if_pos c19] at H
  have c19b0 : decide (4194304<a2)=true:=decide_eq_true c19
  clear c19
  simp only [Option.some.injEq,Prod.mk.injEq] at H
  obtain ⟨rfl,rfl,rfl,rfl,rfl⟩:=H
  go_enter Try.func24,Try.ntmps24
  go_wp2_with (first|((with_reducible refine gate_dst (N:=3) rfl ?_);refine box_event ?hg (N:=3) ?hd (cs:=#[.int .i64 a0_0,.int .i64 a0_1,.int .i64 a0_2,.int .i64 a0_3]) (t:=35) ?hr ?_;(case hd=>rfl);(case hg=>rfl);(case hr=>first|(go_simp;done)|(go_simp;rfl));intro gb139 hg w20 hbox hb;have BK139:=Aside0.mk hbox;have GW139:=Aside0.mk (zS hg HB);have GE139:=Aside0.mk (zS hg HB);replace HB:=Aside0.mk (below_step (zW HB) hb);clear hb hbox hg)|((with_reducible refine gate_dst (N:=6) rfl ?_);refine box_event ?hg (N:=6) ?hd (cs:=#[.int .i64 0,.int .i64 0,.int .i64 0,.int .i64 0]) (t:=35) ?hr ?_;(case hd=>rfl);(case hg=>rfl);(case hr=>first|(go_simp;done)|(go_simp;rfl));intro gb140 hg w21 hbox hb;have BK140:=Aside0.mk hbox;have GW140:=Aside0.mk (zS hg HB);have GE140:=Aside0.mk (zS hg HB);replace HB:=Aside0.mk (below_step (zW HB) hb);have NB139_140:=Aside0.mk (zL hg BK139);have NB140_139:=Aside0.mk (zG hg BK139);replace BK139:=Aside0.mk (blk_below (zB BK139) hb);clear hb hbox hg;have hnb22:=NB139_140.out;have hnc22:=NB140_139.out;have hcz23_0:=zc BK139 0 (.int .i64 a0_0) rfl;have hcz23_1:=zc BK139 1 (.int .i64 a0_1) rfl;have hcz23_2:=zc BK139 2 (.int .i64 a0_2) rfl;have hcz23_3:=zc BK139 3 (.int .i64 a0_3) rfl;have hfz23_0:=blk_frozen BK139.out 0;have hfz23_1:=blk_frozen BK139.out 1;have hfz23_2:=blk_frozen BK139.out 2;have hfz23_3:=blk_frozen BK139.out 3)|((with_reducible refine gate_dst (N:=8) rfl ?_);refine box_event ?hg (N:=8) ?hd (cs:=#[.int .i64 0,.int .i64 0,.int .i64 0,.int .i64 0]) (t:=67) ?hr ?_;(case hd=>rfl);(case hg=>rfl);(case hr=>first|(go_simp;done)|(go_simp;rfl));intro gb141 hg w24 hbox hb;have BK141:=Aside0.mk hbox;have GW141:=Aside0.mk (zS hg HB);have GE141:=Aside0.mk (zS hg HB);replace HB:=Aside0.mk (below_step (zW HB) hb);have NB139_141:=Aside0.mk (zL hg BK139);have NB141_139:=Aside0.mk (zG hg BK139);replace BK139:=Aside0.mk (blk_below (zB BK139) hb);have NB140_141:=Aside0.mk (zL hg BK140);have NB141_140:=Aside0.mk (zG hg BK140);replace BK140:=Aside0.mk (blk_below (zB BK140) hb);clear hb hbox hg;have hnb25:=NB141_139.out;have hnc25:=NB139_141.out;have hnb26:=NB141_140.out;have hnc26:=NB140_141.out;have hcz27_0:=zc BK141 0 (.int .i64 0) rfl;have hcz27_1:=zc BK141 1 (.int .i64 0) rfl;have hcz27_2:=zc BK141 2 (.int .i64 0) rfl;have hcz27_3:=zc BK141 3 (.int .i64 0) rfl;have hfz27_0:=blk_frozen BK141.out 0;have hfz27_1:=blk_frozen BK141.out 1;have hfz27_2:=blk_frozen BK141.out 2;have hfz27_3:=blk_frozen BK141.out 3)|((with_reducible refine gate_callee (f:=39) rfl ?_);refine goesL_ (some 12) rfl rfl Try.func39 zk rfl #[.agg #[.int .i64 a0_0,.int .i64 a0_1,.int .i64 a0_2,.int .i64 a0_3]] rfl zA ?_;(with_reducible refine (gain_slope_valid.calls a0_0 a0_1 a0_2 a0_3 true _ A4.out).mono ?_);rintro e w28 ⟨rfl,hb⟩;refine ⟨_,rfl,?_⟩;replace BK139:=Aside0.mk (blk_below (zB BK139) hb);replace BK140:=Aside0.mk (blk_below (zB BK140) hb);replace BK141:=Aside0.mk (blk_below (g:=gb141) (o:=.cells #[.int .i64 a0_0,.int .i64 a0_1,.int .i64 a0_2,.int .i64 a0_3] 67 (0,0)) (zB BK141) hb);replace HB:=Aside0.mk (below_step (zW HB) hb);(try clear hb))|(go_at_call 36;(with_reducible refine (gain_is.calls a1 true _ A6.out).mono ?_);rintro e w' ⟨rfl,⟨nd,rfl⟩⟩;(try (rw [drewN_self w28];generalize hq_ : World.drewN w28 _=w28;have n0_ : Aside0 (w28.heap[gb139]?=some (.cells #[.int .i64 a0_0,.int .i64 a0_1,.int .i64 a0_2,.int .i64 a0_3] 35 (0,0))):=⟨by rw [← hq_];exact (zB BK139)⟩;have n1_ : Aside0 (w28.heap[gb140]?=some (.cells #[.int .i64 0,.int .i64 0,.int .i64 0,.int .i64 0] 35 (0,0))):=⟨by rw [← hq_];exact (zB BK140)⟩;have n2_ : Aside0 (w28.heap[gb141]?=some (.cells #[.int .i64 a0_0,.int .i64 a0_1,.int .i64 a0_2,.int .i64 a0_3] 67 (0,0))):=⟨by rw [← hq_];exact (zB BK141)⟩;have n3_ : Aside0 (Below w.heap.size w w28):=⟨by rw [← hq_];exact (zW HB)⟩;clear BK139 BK140 BK141 HB hq_;have BK139:=n0_;have BK140:=n1_;have BK141:=n2_;have HB:=n3_;clear n0_ n1_ n2_ n3_));have hcz29_0:=zc BK140 0 (.int .i64 0) rfl;have hcz29_1:=zc BK140 1 (.int .i64 0) rfl;have hcz29_2:=zc BK140 2 (.int .i64 0) rfl;have hcz29_3:=zc BK140 3 (.int .i64 0) rfl;have hfz29_0:=blk_frozen BK140.out 0;have hfz29_1:=blk_frozen BK140.out 1;have hfz29_2:=blk_frozen BK140.out 2;have hfz29_3:=blk_frozen BK140.out 3))
  refine bodyPost_ret (results_ct rfl _ _ gb140 35 #[.int .i64 0,.int .i64 0,.int .i64 0,.int .i64 0] (0,0) _ rfl (zB BK140) Try.underlying35 rfl zk) rfl ?_
  exact ⟨zX,zW HB⟩
 rw [if_neg c19] at H
 have c19b0 : decide (4194304<a2)=false:=decide_eq_false c19
 clear c19
 replace H:=Option.bind_eq_some_iff.mp H
 obtain ⟨t144,A300,H⟩:=H
 replace H : (some (t144,a1,a2,0,0))=some (r1,r2,r3,r4,r5):=H
 have A30:=Aside0.mk A300
 clear A300
 simp only [Option.some.injEq,Prod.mk.injEq] at H
 obtain ⟨rfl,rfl,rfl,rfl,rfl⟩:=H
 go_enter Try.func24,Try.ntmps24
 go_wp2_with (first|((with_reducible refine gate_dst (N:=3) rfl ?_);refine box_event ?hg (N:=3) ?hd (cs:=#[.int .i64 a0_0,.int .i64 a0_1,.int .i64 a0_2,.int .i64 a0_3]) (t:=35) ?hr ?_;(case hd=>rfl);(case hg=>rfl);(case hr=>first|(go_simp;done)|(go_simp;rfl));intro gb139 hg w31 hbox hb;have BK139:=Aside0.mk hbox;have GW139:=Aside0.mk (zS hg HB);have GE139:=Aside0.mk (zS hg HB);replace HB:=Aside0.mk (below_step (zW HB) hb);clear hb hbox hg)|((with_reducible refine gate_dst (N:=6) rfl ?_);refine box_event ?hg (N:=6) ?hd (cs:=#[.int .i64 0,.int .i64 0,.int .i64 0,.int .i64 0]) (t:=35) ?hr ?_;(case hd=>rfl);(case hg=>rfl);(case hr=>first|(go_simp;done)|(go_simp;rfl));intro gb140 hg w32 hbox hb;have BK140:=Aside0.mk hbox;have GW140:=Aside0.mk (zS hg HB);have GE140:=Aside0.mk (zS hg HB);replace HB:=Aside0.mk (below_step (zW HB) hb);have NB139_140:=Aside0.mk (zL hg BK139);have NB140_139:=Aside0.mk (zG hg BK139);replace BK139:=Aside0.mk (blk_below (zB BK139) hb);clear hb hbox hg;have hnb33:=NB139_140.out;have hnc33:=NB140_139.out;have hcz34_0:=zc BK139 0 (.int .i64 a0_0) rfl;have hcz34_1:=zc BK139 1 (.int .i64 a0_1) rfl;have hcz34_2:=zc BK139 2 (.int .i64 a0_2) rfl;have hcz34_3:=zc BK139 3 (.int .i64 a0_3) rfl;have hfz34_0:=blk_frozen BK139.out 0;have hfz34_1:=blk_frozen BK139.out 1;have hfz34_2:=blk_frozen BK139.out 2;have hfz34_3:=blk_frozen BK139.out 3)|((with_reducible refine gate_dst (N:=8) rfl ?_);refine box_event ?hg (N:=8) ?hd (cs:=#[.int .i64 0,.int .i64 0,.int .i64 0,.int .i64 0]) (t:=67) ?hr ?_;(case hd=>rfl);(case hg=>rfl);(case hr=>first|(go_simp;done)|(go_simp;rfl));intro gb141 hg w35 hbox hb;have BK141:=Aside0.mk hbox;have GW141:=Aside0.mk (zS hg HB);have GE141:=Aside0.mk (zS hg HB);replace HB:=Aside0.mk (below_step (zW HB) hb);have NB139_141:=Aside0.mk (zL hg BK139);have NB141_139:=Aside0.mk (zG hg BK139);replace BK139:=Aside0.mk (blk_below (zB BK139) hb);have NB140_141:=Aside0.mk (zL hg BK140);have NB141_140:=Aside0.mk (zG hg BK140);replace BK140:=Aside0.mk (blk_below (zB BK140) hb);clear hb hbox hg;have hnb36:=NB141_139.out;have hnc36:=NB139_141.out;have hnb37:=NB141_140.out;have hnc37:=NB140_141.out;have hcz38_0:=zc BK141 0 (.int .i64 0) rfl;have hcz38_1:=zc BK141 1 (.int .i64 0) rfl;have hcz38_2:=zc BK141 2 (.int .i64 0) rfl;have hcz38_3:=zc BK141 3 (.int .i64 0) rfl;have hfz38_0:=blk_frozen BK141.out 0;have hfz38_1:=blk_frozen BK141.out 1;have hfz38_2:=blk_frozen BK141.out 2;have hfz38_3:=blk_frozen BK141.out 3)|((with_reducible refine gate_callee (f:=39) rfl ?_);refine goesL_ (some 12) rfl rfl Try.func39 zk rfl #[.agg #[.int .i64 a0_0,.int .i64 a0_1,.int .i64 a0_2,.int .i64 a0_3]] rfl zA ?_;(with_reducible refine (gain_slope_valid.calls a0_0 a0_1 a0_2 a0_3 true _ A4.out).mono ?_);rintro e w39 ⟨rfl,hb⟩;refine ⟨_,rfl,?_⟩;replace BK139:=Aside0.mk (blk_below (zB BK139) hb);replace BK140:=Aside0.mk (blk_below (zB BK140) hb);replace BK141:=Aside0.mk (blk_below (g:=gb141) (o:=.cells #[.int .i64 a0_0,.int .i64 a0_1,.int .i64 a0_2,.int .i64 a0_3] 67 (0,0)) (zB BK141) hb);replace HB:=Aside0.mk (below_step (zW HB) hb);(try clear hb))|(go_at_call 36;(with_reducible refine (gain_is.calls a1 true _ A6.out).mono ?_);rintro e w' ⟨rfl,⟨nd,rfl⟩⟩;(try (rw [drewN_self w39];generalize hq_ : World.drewN w39 _=w39;have n0_ : Aside0 (w39.heap[gb139]?=some (.cells #[.int .i64 a0_0,.int .i64 a0_1,.int .i64 a0_2,.int .i64 a0_3] 35 (0,0))):=⟨by rw [← hq_];exact (zB BK139)⟩;have n1_ : Aside0 (w39.heap[gb140]?=some (.cells #[.int .i64 0,.int .i64 0,.int .i64 0,.int .i64 0] 35 (0,0))):=⟨by rw [← hq_];exact (zB BK140)⟩;have n2_ : Aside0 (w39.heap[gb141]?=some (.cells #[.int .i64 a0_0,.int .i64 a0_1,.int .i64 a0_2,.int .i64 a0_3] 67 (0,0))):=⟨by rw [← hq_];exact (zB BK141)⟩;have n3_ : Aside0 (Below w.heap.size w w39):=⟨by rw [← hq_];exact (zW HB)⟩;clear BK139 BK140 BK141 HB hq_;have BK139:=n0_;have BK140:=n1_;have BK141:=n2_;have HB:=n3_;clear n0_ n1_ n2_ n3_));have hcz40_0:=zc BK141 0 (.int .i64 a0_0) rfl;have hcz40_1:=zc BK141 1 (.int .i64 a0_1) rfl;have hcz40_2:=zc BK141 2 (.int .i64 a0_2) rfl;have hcz40_3:=zc BK141 3 (.int .i64 a0_3) rfl;have hfz40_0:=blk_frozen BK141.out 0;have hfz40_1:=blk_frozen BK141.out 1;have hfz40_2:=blk_frozen BK141.out 2;have hfz40_3:=blk_frozen BK141.out 3)|((with_reducible refine gate_callee (f:=40) rfl ?_);refine goesL_ (some 29) rfl rfl Try.func40 zk rfl #[.agg #[.int .i64 a0_0,.int .i64 a0_1,.int .i64 a0_2,.int .i64 a0_3],.int .i64 0] rfl zA ?_;(with_reducible refine (gain_slope_gain.calls a0_0 a0_1 a0_2 a0_3 0 t144 _ A30.out).mono ?_);rintro e w41 ⟨rfl,hb⟩;refine ⟨_,rfl,?_⟩;replace BK139:=Aside0.mk (blk_below (zB BK139) hb);replace BK140:=Aside0.mk (blk_below (zB BK140) hb);replace BK141:=Aside0.mk (blk_below (zB BK141) hb);replace HB:=Aside0.mk (below_step (zW HB) hb);(try clear hb);have hcz42_0:=zc BK140 0 (.int .i64 0) rfl;have hcz42_1:=zc BK140 1 (.int .i64 0) rfl;have hcz42_2:=zc BK140 2 (.int .i64 0) rfl;have hcz42_3:=zc BK140 3 (.int .i64 0) rfl;have hfz42_0:=blk_frozen BK140.out 0;have hfz42_1:=blk_frozen BK140.out 1;have hfz42_2:=blk_frozen BK140.out 2;have hfz42_3:=blk_frozen BK140.out 3))
 refine bodyPost_ret (results_ct rfl _ _ gb140 35 #[.int .i64 t144,.int .i64 a1,.int .i64 a2,.int .i64 0] (0,0) _ rfl (zB BK140) Try.underlying35 rfl zk) rfl ?_
 exact ⟨zX,zW HB⟩

end Go.Proofs.Ytegodmjmoagajaa.QM
