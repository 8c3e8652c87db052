-- Written by a program of this session, out of the seat's translation; checked by the kernel alone.
import Derived.Test.YtcnmemcclhahnaaQT0
import Derived.Test.YtcnmemcclhahnaaQT2
namespace Go.Proofs.Ytcnmemcclhahnaa.QT
open Go.RowKit Go.Proofs.YtcnmemcclhahnaaW.PrintWords Go.Proofs.YtcnmemcclhahnaaW.PrintLast Go.Proofs.YtcnmemcclhahnaaW.PrintMore
attribute [local go_sem] max2_int min2_int max_two min_two max_three min_three max_four min_four   -- for this text's walks alone
set_option linter.unusedVariables false
set_option linter.unusedSimpArgs false

mutual
def matrix_Valid.j0 : Nat→Bool→Int→Int→List Int→Option (Bool)
 | 0,_,_,_,_=>none
 | k+1,x33,x131000,x131001,x131002=>if x33=true then (some false) else (matrix_Valid.l0 k x131002 (x131002.length : Int) 0)
def matrix_Valid.l0 : Nat→List Int→Int→Int→Option (Bool)
 | 0,_,_,_=>none
 | k+1,x35,x36,x37=>if x37<x36 then (if 0≤x37 then (if x37<(x35.length : Int) then (if (rd x35 x37)<(-131072) then (some false) else (if (rd x35 x37)>131072 then (some false) else (matrix_Valid.l0 k x35 x36 (wrap64 (x37+1))))) else (none)) else (none)) else (some true)
end
def matrix_Valid.f (k : Nat) (a0_0 : Int) (a0_1 : Int) (l0_2 : List Int) : Option (Bool):=if a0_0<1 then (matrix_Valid.j0 k true a0_0 a0_1 l0_2) else (if a0_0>8 then (matrix_Valid.j0 k true a0_0 a0_1 l0_2) else (if a0_1<1 then (matrix_Valid.j0 k true a0_0 a0_1 l0_2) else (if a0_1>8 then (matrix_Valid.j0 k true a0_0 a0_1 l0_2) else (matrix_Valid.j0 k ((l0_2.length : Int) != (wrap64 (a0_0*a0_1))) a0_0 a0_1 l0_2))))
theorem matrix_Valid.mono_l : ∀ k,(∀ y0 y1 y2 y3,LeO (matrix_Valid.j0 k y0 y1 y2 y3) (matrix_Valid.j0 (k+1) y0 y1 y2 y3))∧(∀ y0 y1 y2,LeO (matrix_Valid.l0 k y0 y1 y2) (matrix_Valid.l0 (k+1) y0 y1 y2))
 | 0=>⟨fun _ _ _ _ r h=>by simp [matrix_Valid.j0] at h,fun _ _ _ r h=>by simp [matrix_Valid.l0] at h⟩
 | k+1=>by
  obtain ⟨ih0,ih1⟩:=matrix_Valid.mono_l k;refine ⟨?_,?_⟩
  ·intro y0 y1 y2 y3;unfold matrix_Valid.j0
   repeat' first
   | (with_reducible exact ih0 _ _ _ _)
   | (with_reducible exact ih1 _ _ _)
   | (with_reducible exact LeO.refl _)
   | (with_reducible exact LeO.none _)
   | (with_reducible refine LeO.ite ?_ ?_)
   | (with_reducible refine LeO.bind ?_ (fun _=>?_))
   | exact ih0 _ _ _ _
   | exact ih1 _ _ _
   | exact LeO.none _
   | refine LeO.ite ?_ ?_
   | refine LeO.bind ?_ (fun _=>?_)
  ·intro y0 y1 y2;unfold matrix_Valid.l0
   repeat' first
   | (with_reducible exact ih0 _ _ _ _)
   | (with_reducible exact ih1 _ _ _)
   | (with_reducible exact LeO.refl _)
   | (with_reducible exact LeO.none _)
   | (with_reducible refine LeO.ite ?_ ?_)
   | (with_reducible refine LeO.bind ?_ (fun _=>?_))
   | exact ih0 _ _ _ _
   | exact ih1 _ _ _
   | exact LeO.none _
   | refine LeO.ite ?_ ?_
   | refine LeO.bind ?_ (fun _=>?_)
theorem matrix_Valid.mono : ∀ a0 a1 a2 k,LeO (matrix_Valid.f k a0 a1 a2) (matrix_Valid.f (k+1) a0 a1 a2):=by
 intro a0 a1 a2 k;obtain ⟨ih0,ih1⟩:=matrix_Valid.mono_l k;unfold matrix_Valid.f
 repeat' first
   | (with_reducible exact ih0 _ _ _ _)
   | (with_reducible exact ih1 _ _ _)
   | (with_reducible exact LeO.refl _)
   | (with_reducible exact LeO.none _)
   | (with_reducible refine LeO.ite ?_ ?_)
   | (with_reducible refine LeO.bind ?_ (fun _=>?_))
   | exact ih0 _ _ _ _
   | exact ih1 _ _ _
   | exact LeO.none _
   | refine LeO.ite ?_ ?_
   | refine LeO.bind ?_ (fun _=>?_)
set_option maxHeartbeats 8000000 in
set_option maxRecDepth 100000 in
theorem matrix_Valid.calls (k : Nat) (a0_0 : Int) (a0_1 : Int) (A0_2 : Option Addr) (c0_2 : Nat) (l0_2 : List Int) (r : Bool) (w : World) (hr0_2 : Kd.C (Kd.int .i64) w A0_2 l0_2.length l0_2) (hc0_2 : l0_2.length≤c0_2) (h : matrix_Valid.f k a0_0 a0_1 l0_2=some r) :
  Calls Try.prog 49 #[.agg #[.int .i64 a0_0,.int .i64 a0_1,.slice A0_2 l0_2.length c0_2]] w fun e w'=>e = .returned (.bool r)∧Below w.heap.size w w':=by
 have hu50:=Try.underlying50;have HR0_2:=zo hr0_2;have HC0_2:=zo hc0_2;clear hr0_2 hc0_2;have HB:=zo (Below.refl w.heap.size w);have H:=h;unfold matrix_Valid.f at H;clear h;have HC2:=zo H;clear H
 go_enter Try.func49,Try.ntmps49
 go_upto_region 1 with (first|((with_reducible refine gate_dst (N:=1) rfl ?_);(try (refine gate_guard (by rfl) ?_;dsimp only));refine box_event ?hg (N:=1) ?hd (cs:=#[.int .i64 a0_0,.int .i64 a0_1,.slice A0_2 l0_2.length c0_2]) (t:=50) ?hr ?_;(case hd=>rfl);(case hg=>rfl);(case hr=>first|(go_simp;done)|(go_simp;rfl));intro gb130 hg w3 hbox hb;have BK130:=zo hbox;have GW130:=zo (zS hg HB);have GE130:=zo (zS hg HB);replace HB:=zo (below_step (zW HB) hb);clear hb hbox hg))
 (try simp only [Act.put,List.setIfInBounds_toArray,List.set_cons_zero,List.set_cons_succ])
 go_cut [33] (fun v33 wc=>∃ (kq : Nat) (x33_1 : Bool),v33 = .bool x33_1∧Aside0 (matrix_Valid.j0 kq x33_1 a0_0 a0_1 l0_2=some r)∧Aside0 (kq≤k)∧Aside0 (wc.heap[gb130]?=some (.cells #[.int .i64 a0_0,.int .i64 a0_1,(.slice A0_2 l0_2.length c0_2)] 50 (0,0)))∧Aside0 (Below w.heap.size w wc))
 case first=>
  have H:=HC2.out;clear HC2
  by_cases c4 : a0_0<1
  ·rw [if_pos c4] at H;have c4b0:=decide_eq_true c4;clear c4;(first|rw [c4b0]|(simp only [i64_w,i32_w];rw [c4b0])|skip);have H':=zo H;clear H;obtain ⟨hcz5_0,hfz5_0,hcz5_1,hfz5_1,hcz5_2,hfz5_2⟩:=zn3 BK130
   go_wp2
   go_meet
   case rel=>exact ⟨_,(true),zE,H',⟨zY⟩,⟨zB BK130⟩,⟨zW HB⟩⟩
  rw [if_neg c4] at H;have c4b0:=decide_eq_false c4;clear c4;(first|rw [c4b0]|(simp only [i64_w,i32_w];rw [c4b0])|skip)
  by_cases c6 : a0_0>8
  ·rw [if_pos c6] at H;have c6b0:=decide_eq_true c6;clear c6;have H':=zo H;clear H;obtain ⟨hcz7_0,hfz7_0,hcz7_1,hfz7_1,hcz7_2,hfz7_2⟩:=zn3 BK130
   go_wp2
   go_meet
   case rel=>exact ⟨_,(true),zE,H',⟨zY⟩,⟨zB BK130⟩,⟨zW HB⟩⟩
  rw [if_neg c6] at H;have c6b0:=decide_eq_false c6;clear c6
  by_cases c8 : a0_1<1
  ·rw [if_pos c8] at H;have c8b0:=decide_eq_true c8;clear c8;have H':=zo H;clear H;obtain ⟨hcz9_0,hfz9_0,hcz9_1,hfz9_1,hcz9_2,hfz9_2⟩:=zn3 BK130
   go_wp2
   go_meet
   case rel=>exact ⟨_,(true),zE,H',⟨zY⟩,⟨zB BK130⟩,⟨zW HB⟩⟩
  rw [if_neg c8] at H;have c8b0:=decide_eq_false c8;clear c8
  by_cases c10 : a0_1>8
  ·rw [if_pos c10] at H;have c10b0:=decide_eq_true c10;clear c10;have H':=zo H;clear H;obtain ⟨hcz11_0,hfz11_0,hcz11_1,hfz11_1,hcz11_2,hfz11_2⟩:=zn3 BK130
   go_wp2
   go_meet
   case rel=>exact ⟨_,(true),zE,H',⟨zY⟩,⟨zB BK130⟩,⟨zW HB⟩⟩
  rw [if_neg c10] at H;have c10b0:=decide_eq_false c10;clear c10;have H':=zo H;clear H;obtain ⟨hcz12_0,hfz12_0,hcz12_1,hfz12_1,hcz12_2,hfz12_2⟩:=zn3 BK130
  go_wp2
  go_meet
  case rel=>exact ⟨_,(((l0_2.length : Int) != (wrap64 (a0_0*a0_1)))),zE,H',⟨zY⟩,⟨zB BK130⟩,⟨zW HB⟩⟩
 case rest=>
  clear HC2
  try clear c1
  try clear p2
  try clear c4
  try clear c4b0
  try clear c6
  try clear c6b0
  try clear p6
  try clear c8
  try clear c8b0
  try clear c10
  try clear c10b0
  obtain ⟨kq,x33_1,rfl,HA,HJ1,BK130,HB⟩:=hcut
  cases kq with
  | zero=>exact absurd HA.out (by simp [matrix_Valid.j0])
  | succ kj1=>
   have H:=HA.out;clear HA;simp only [matrix_Valid.j0] at H
   by_cases c13 : x33_1=true
   ·subst c13;have H1:=H;rw [if_pos rfl] at H1;clear H;have H:=H1;clear H1;obtain rfl:=Option.some.inj H
    go_wp2
    go_ret
    exact ⟨zX,zW HB⟩
   replace c13:=Bool.eq_false_iff.mpr c13;subst c13;have H1:=H;rw [if_neg (show ¬ (false=true) by decide)] at H1;clear H;have H:=H1;clear H1;have H':=zo H;clear H;obtain ⟨hcz14_0,hfz14_0,hcz14_1,hfz14_1,hcz14_2,hfz14_2⟩:=zn3 BK130
   go_wp2
   go_loopg [37] kj1 (fun kq v37 w'=>∃ (x37_2 : Int),v37 = .int .i64 x37_2∧Aside0 (matrix_Valid.l0 kq l0_2 (l0_2.length : Int) x37_2=some r)∧Aside0 (kq≤kj1)∧Aside0 (w'.heap[gb130]?=some (.cells #[.int .i64 a0_0,.int .i64 a0_1,(.slice A0_2 l0_2.length c0_2)] 50 (0,0)))∧Aside0 (Below w.heap.size w w'))
   case atStart=>exact ⟨(0),zE,H',⟨Nat.le_refl _⟩,⟨zB BK130⟩,⟨zW HB⟩⟩
   case round=>
    clear H'
    try clear c1
    try clear p2
    try clear c4
    try clear c4b0
    try clear c6
    try clear c6b0
    try clear p6
    try clear c8
    try clear c8b0
    try clear c10
    try clear c10b0
    try clear c13
    try clear p2
    try clear p6
    obtain ⟨x37_2,rfl,HA,HK2,BK130,HB⟩:=hrel
    cases gk with
    | zero=>exact absurd HA.out (by simp [matrix_Valid.l0])
    | succ k2=>
     have H:=HA.out;clear HA;simp only [matrix_Valid.l0] at H
     by_cases c15 : x37_2<(l0_2.length : Int)
     rotate_left
     ·rw [if_neg c15] at H;have c15b0:=decide_eq_false c15;clear c15;obtain rfl:=Option.some.inj H
      go_wp2
      go_ret
      exact ⟨zX,zW HB⟩
     rw [if_pos c15] at H;have c15b0:=decide_eq_true c15;clear c15
     by_cases c16 : 0≤x37_2
     rotate_left
     ·rw [if_neg c16] at H;exact absurd H (by simp)
     rw [if_pos c16] at H;have c16b0:=decide_eq_true c16;clear c16
     by_cases c17 : x37_2<(l0_2.length : Int)
     rotate_left
     ·rw [if_neg c17] at H;exact absurd H (by simp)
     rw [if_pos c17] at H;have c17b0:=decide_eq_true c17;clear c17
     by_cases c18 : (rd l0_2 x37_2)<(-131072)
     ·rw [if_pos c18] at H;have c18b0:=decide_eq_true c18;clear c18;obtain rfl:=Option.some.inj H;have p131 : 0≤(x37_2 : Int):=zD;have q131 : x37_2<(l0_2.length : Int):=zD;obtain ⟨ad131,e131,hx131_0⟩:=Kd.at_int HR0_2.out x37_2 p131 q131
      cases e131
      (try (replace hx131_0:=(HB.out.cell (World.block_lt_of_cell? w _ hx131_0)).trans hx131_0));replace p131:=eq_true p131;replace q131:=eq_true q131
      go_wp2
      go_ret
      exact ⟨zX,zW HB⟩
     rw [if_neg c18] at H;have c18b0:=decide_eq_false c18;clear c18
     by_cases c19 : (rd l0_2 x37_2)>131072
     ·rw [if_pos c19] at H;have c19b0:=decide_eq_true c19;clear c19;obtain rfl:=Option.some.inj H;have p131 : 0≤(x37_2 : Int):=zD;have q131 : x37_2<(l0_2.length : Int):=zD;obtain ⟨ad131,e131,hx131_0⟩:=Kd.at_int HR0_2.out x37_2 p131 q131
      cases e131
      (try (replace hx131_0:=(HB.out.cell (World.block_lt_of_cell? w _ hx131_0)).trans hx131_0));replace p131:=eq_true p131;replace q131:=eq_true q131
      go_wp2
      go_ret
      exact ⟨zX,zW HB⟩
     rw [if_neg c19] at H;have c19b0:=decide_eq_false c19;clear c19;have H':=zo H;clear H;have p131 : 0≤(x37_2 : Int):=zD;have q131 : x37_2<(l0_2.length : Int):=zD;obtain ⟨ad131,e131,hx131_0⟩:=Kd.at_int HR0_2.out x37_2 p131 q131
     cases e131
     (try (replace hx131_0:=(HB.out.cell (World.block_lt_of_cell? w _ hx131_0)).trans hx131_0));replace p131:=eq_true p131;replace q131:=eq_true q131
     go_wp2
     go_roundg k2
     case measure=>have:=HJ1.out;have:=HK2.out;omega
     case rel=>exact ⟨(wrap64 (x37_2+1)),zE,H',⟨by have:=HJ1.out;have:=HK2.out;omega⟩,⟨zB BK130⟩,⟨zW HB⟩⟩

def sample_Frames.f (k : Nat) (a0_0 : Int) (l0_1 : List Int) : Option (Int):=(sample_Valid.f k a0_0 l0_1).bind fun t133=>(if t133=true then (if a0_0=0 then (none) else (some (wrap64 ((l0_1.length : Int) / a0_0)))) else (some 0))
theorem sample_Frames.mono : ∀ a0 a1 k,LeO (sample_Frames.f k a0 a1) (sample_Frames.f (k+1) a0 a1):=by
 intro a0 a1 k;unfold sample_Frames.f
 repeat' first
   | (with_reducible exact sample_Valid.mono _ _ _)
   | (with_reducible exact LeO.refl _)
   | (with_reducible exact LeO.none _)
   | (with_reducible refine LeO.ite ?_ ?_)
   | (with_reducible refine LeO.bind ?_ (fun _=>?_))
   | exact sample_Valid.mono _ _ _
   | exact LeO.none _
   | refine LeO.ite ?_ ?_
   | refine LeO.bind ?_ (fun _=>?_)
set_option maxHeartbeats 8000000 in
set_option maxRecDepth 100000 in
theorem sample_Frames.calls (k : Nat) (a0_0 : Int) (A0_1 : Option Addr) (c0_1 : Nat) (l0_1 : List Int) (r : Int) (w : World) (hr0_1 : Kd.C (Kd.int .i32) w A0_1 l0_1.length l0_1) (hc0_1 : l0_1.length≤c0_1) (h : sample_Frames.f k a0_0 l0_1=some r) :
  Calls Try.prog 50 #[.agg #[.int .i64 a0_0,.slice A0_1 l0_1.length c0_1]] w fun e w'=>e = .returned (.int .i64 r)∧Below w.heap.size w w':=by
 have hu43:=Try.underlying43;have HR0_1:=zo hr0_1;have HC0_1:=zo hc0_1;clear hr0_1 hc0_1;have HB:=zo (Below.refl w.heap.size w);have H:=h;unfold sample_Frames.f at H;clear h;replace H:=Option.bind_eq_some_iff.mp H;obtain ⟨t133,A20,H⟩:=H
 try dsimp only at H
 have A2:=zo A20;clear A20
 by_cases c3 : t133=true
 rotate_left
 ·replace c3:=Bool.eq_false_iff.mpr c3;subst c3;have H1:=H;rw [if_neg (show ¬ (false=true) by decide)] at H1;clear H;have H:=H1;clear H1;obtain rfl:=Option.some.inj H
  go_enter Try.func50,Try.ntmps50
  go_wp2_with (first|((with_reducible refine gate_dst (N:=1) rfl ?_);refine box_event ?hg (N:=1) ?hd (cs:=#[.int .i64 a0_0,.slice A0_1 l0_1.length c0_1]) (t:=43) ?hr ?_;(case hd=>rfl);(case hg=>rfl);(case hr=>first|(go_simp;done)|(go_simp;rfl));intro gb132 hg w9 hbox hb;have BK132:=zo hbox;have GW132:=zo (zS hg HB);have GE132:=zo (zS hg HB);replace HB:=zo (below_step (zW HB) hb);clear hb hbox hg;obtain ⟨hcz10_0,hfz10_0,hcz10_1,hfz10_1⟩:=zn2 BK132)|((with_reducible refine gate_callee (f:=48) rfl ?_);refine goesL_ (some 4) rfl rfl Try.func48 zk rfl #[.agg #[.int .i64 a0_0,.slice A0_1 l0_1.length c0_1]] rfl zA ?_;(with_reducible refine (sample_Valid.calls k a0_0 _ _ l0_1 false _ ?side1 ?side2 A2.out).mono ?_);(case side1=>repeat (first|exact (Kd.C_below HR0_1.out HB.out)|(with_reducible refine Kd.C_alloc ?_ _)|(with_reducible refine Kd.C_drewN ?_ _)|(with_reducible refine Kd.C_drew ?_)));(case side2=>exact HC0_1.out);rintro e w11 ⟨rfl,hb⟩;refine ⟨_,rfl,?_⟩;replace BK132:=zo (blk_below (zB BK132) hb);replace HB:=zo (below_step (zW HB) hb);(try clear hb)))
  go_ret
  exact ⟨zX,zW HB⟩
 subst c3;have H1:=H;rw [if_pos rfl] at H1;clear H;have H:=H1;clear H1
 by_cases c4 : a0_0=0
 ·rw [if_pos c4] at H;exact absurd H (by simp)
 rw [if_neg c4] at H;have c4b0 : (a0_0 == 0)=false:=beq_eq_false_iff_ne.mpr c4;have c4b1 : (a0_0 != 0)=true:=bne_iff_ne.mpr c4;obtain rfl:=Option.some.inj H
 go_enter Try.func50,Try.ntmps50
 go_wp2_with (first|((with_reducible refine gate_dst (N:=1) rfl ?_);refine box_event ?hg (N:=1) ?hd (cs:=#[.int .i64 a0_0,.slice A0_1 l0_1.length c0_1]) (t:=43) ?hr ?_;(case hd=>rfl);(case hg=>rfl);(case hr=>first|(go_simp;done)|(go_simp;rfl));intro gb132 hg w5 hbox hb;have BK132:=zo hbox;have GW132:=zo (zS hg HB);have GE132:=zo (zS hg HB);replace HB:=zo (below_step (zW HB) hb);clear hb hbox hg;obtain ⟨hcz6_0,hfz6_0,hcz6_1,hfz6_1⟩:=zn2 BK132)|((with_reducible refine gate_callee (f:=48) rfl ?_);refine goesL_ (some 4) rfl rfl Try.func48 zk rfl #[.agg #[.int .i64 a0_0,.slice A0_1 l0_1.length c0_1]] rfl zA ?_;(with_reducible refine (sample_Valid.calls k a0_0 _ _ l0_1 true _ ?side1 ?side2 A2.out).mono ?_);(case side1=>repeat (first|exact (Kd.C_below HR0_1.out HB.out)|(with_reducible refine Kd.C_alloc ?_ _)|(with_reducible refine Kd.C_drewN ?_ _)|(with_reducible refine Kd.C_drew ?_)));(case side2=>exact HC0_1.out);rintro e w7 ⟨rfl,hb⟩;refine ⟨_,rfl,?_⟩;replace BK132:=zo (blk_below (zB BK132) hb);replace HB:=zo (below_step (zW HB) hb);(try clear hb);obtain ⟨hcz8_0,hfz8_0,hcz8_1,hfz8_1⟩:=zn2 BK132))
 go_ret
 exact ⟨zX,zW HB⟩

def matrix_rows.l0 : Nat→List (List Int)→Int→Int→Int→Int→List Int→Option ((List (List Int)))
 | 0,_,_,_,_,_,_=>none
 | k+1,x3,x9,x10,x135000,x135001,x135002=>if x10<x9 then (if 0≤(wrap64 (x10*x135000)) then (if (wrap64 (x10*x135000))≤(wrap64 ((wrap64 (x10+1))*x135000)) then (if (wrap64 ((wrap64 (x10+1))*x135000))≤(x135002.length : Int) then (if 0≤x10 then (if x10<(x3.length : Int) then (matrix_rows.l0 k (x3.set (x10 : Int).toNat ((x135002.take ((wrap64 ((wrap64 (x10+1))*x135000)) : Int).toNat).drop ((wrap64 (x10*x135000)) : Int).toNat)) x9 (wrap64 (x10+1)) x135000 x135001 x135002) else (none)) else (none)) else (none)) else (none)) else (none)) else (some x3)
def matrix_rows.f (k : Nat) (a0_0 : Int) (a0_1 : Int) (l0_2 : List Int) : Option ((List (List Int))):=if 0≤a0_1 then (if (a0_1 : Int).toNat≤11728124029610 then ((some (List.replicate (a0_1 : Int).toNat [] : List (List Int))).bind fun y135=>(matrix_rows.l0 k y135 (y135.length : Int) 0 a0_0 a0_1 l0_2)) else (none)) else (none)
theorem matrix_rows.mono_l : ∀ k,(∀ y0 y1 y2 y3 y4 y5,LeO (matrix_rows.l0 k y0 y1 y2 y3 y4 y5) (matrix_rows.l0 (k+1) y0 y1 y2 y3 y4 y5))
 | 0=>fun _ _ _ _ _ _ r h=>by simp [matrix_rows.l0] at h
 | k+1=>by
  have ih0:=matrix_rows.mono_l k
  ·intro y0 y1 y2 y3 y4 y5;unfold matrix_rows.l0
   repeat' first
   | (with_reducible exact ih0 _ _ _ _ _ _)
   | (with_reducible exact LeO.refl _)
   | (with_reducible exact LeO.none _)
   | (with_reducible refine LeO.ite ?_ ?_)
   | (with_reducible refine LeO.bind ?_ (fun _=>?_))
   | exact ih0 _ _ _ _ _ _
   | exact LeO.none _
   | refine LeO.ite ?_ ?_
   | refine LeO.bind ?_ (fun _=>?_)
theorem matrix_rows.mono : ∀ a0 a1 a2 k,LeO (matrix_rows.f k a0 a1 a2) (matrix_rows.f (k+1) a0 a1 a2):=by
 intro a0 a1 a2 k;have ih0:=matrix_rows.mono_l k;unfold matrix_rows.f
 repeat' first
   | (with_reducible exact ih0 _ _ _ _ _ _)
   | (with_reducible exact LeO.refl _)
   | (with_reducible exact LeO.none _)
   | (with_reducible refine LeO.ite ?_ ?_)
   | (with_reducible refine LeO.bind ?_ (fun _=>?_))
   | exact ih0 _ _ _ _ _ _
   | exact LeO.none _
   | refine LeO.ite ?_ ?_
   | refine LeO.bind ?_ (fun _=>?_)
set_option maxHeartbeats 8000000 in
set_option maxRecDepth 100000 in
theorem matrix_rows.calls (k : Nat) (a0_0 : Int) (a0_1 : Int) (P0_2_ : Nat→Prop) (A0_2 : Option Addr) (c0_2 : Nat) (l0_2 : List Int) (r : List (List Int)) (w : World) (hs0_2 : Kd.V (Kd.int .i64) 3 w w.heap.size (fun k_=>P0_2_ k_) (.slice A0_2 l0_2.length c0_2) l0_2) (h : matrix_rows.f k a0_0 a0_1 l0_2=some r) :
  Calls Try.prog 68 #[.agg #[.int .i64 a0_0,.int .i64 a0_1,.slice A0_2 l0_2.length c0_2]] w fun e w'=>∃ v0_ : Value,e = .returned (v0_)∧Kd.N (Kd.slice 3 (Kd.int .i64)) 48 w' w.heap.size (fun k_=>(P0_2_ k_∨w.heap.size≤k_)) v0_ r∧Below w.heap.size w w':=by
 have hu50:=Try.underlying50;have HO0_2:=zo (show Kd.V (Kd.int .i64) 3 w w.heap.size (fun k_=>(P0_2_ k_∨w.heap.size≤k_)) (.slice A0_2 l0_2.length c0_2) l0_2 from Kd.V_mono hs0_2 (fun k_ hk=>.inl hk));have HB:=zo (Below.refl w.heap.size w);have H:=h;unfold matrix_rows.f at H;clear h
 by_cases c2 : 0≤a0_1
 rotate_left
 ·rw [if_neg c2] at H;exact absurd H (by simp)
 rw [if_pos c2] at H;have c2b0:=eq_true c2;have c2b1:=decide_eq_true c2;clear c2
 by_cases c3 : (a0_1 : Int).toNat≤11728124029610
 rotate_left
 ·rw [if_neg c3] at H;exact absurd H (by simp)
 rw [if_pos c3] at H;have c3b0:=eq_true c3;have c3b1:=decide_eq_true c3;clear c3;obtain ⟨y135,hy135⟩ : ∃ y_ : List (List Int),y_=(List.replicate (a0_1 : Int).toNat []):=⟨_,rfl⟩;replace H : (matrix_rows.l0 k y135 (y135.length : Int) 0 a0_0 a0_1 l0_2)=some r:=by first|(rw [hy135];with_reducible exact H)|(have H2_:=(Option.bind_some _ _).symm.trans H;rw [hy135];with_reducible exact H2_)|(have H2_:=(Option.bind_some _ _).symm.trans H;with_reducible exact H2_)|with_reducible exact H|(rw [hy135];exact H)|exact H
 have Ny135:=zo hy135;clear hy135;have H':=zo H;clear H
 go_enter Try.func68,Try.ntmps68
 go_wp2_with (first|((with_reducible refine gate_dst (N:=1) rfl ?_);refine box_event ?hg (N:=1) ?hd (cs:=#[.int .i64 a0_0,.int .i64 a0_1,.slice A0_2 l0_2.length c0_2]) (t:=50) ?hr ?_;(case hd=>rfl);(case hg=>rfl);(case hr=>first|(go_simp;done)|(go_simp;rfl));intro gb134 hg w4 hbox hb;replace HO0_2:=zo (Kd.V_below (Kd.V_elderB (zV HO0_2) gb134 (Nat.le_of_eq hg.symm)) hb);have BK134:=zo hbox;have GW134:=zo (zS hg HB);have GE134:=zo (zS hg HB);replace HB:=zo (below_step (zW HB) hb);clear hb hbox hg;obtain ⟨hcz5_0,hfz5_0,hcz5_1,hfz5_1,hcz5_2,hfz5_2⟩:=zn3 BK134)|((with_reducible refine gate_dst (N:=7) rfl ?_);refine Kd.N_make (Kd.slice 3 (Kd.int .i64)) _ 48 rfl (N':=7) rfl 101 _ _ rfl a0_1 rfl rfl Try.underlying101 (.slice none 0 0) 24 info48 rfl (by decide) (by omega) [] (ok:=fun k_=>w4.heap.size≤k_) (okp:=fun _=>False) (Kd.FK_slice_mk (Nat.le_refl _) (Kd.F_nil _ _ _)) (fun _ hk=>hk.elim) (Nat.le_refl _) (zD) (Nat.le_trans (Nat.mul_le_mul_right _ (zD : a0_1.toNat≤11728124029610)) (by omega)) (Below.refl _ _) (Nat.le_refl _) ?_;intro v136 w6 ho7 hb hg_ hnew_;clear hg_ hnew_;(first|rw [← Ny135.out] at ho7|(simp only [Int.reduceToNat] at ho7;rw [← Ny135.out] at ho7));replace HO0_2:=zo (Kd.V_elder' (zV HO0_2) (Kd.N_base ho7) hb);have HO137:=zo (Kd.N_lower (Kd.N_mono (ok':=fun k_=>(P0_2_ k_∨w.heap.size≤k_)∧k_≠gb134) ho7 (fun k_ hk_=>⟨(.inr (Nat.le_trans (below_size (zW HB)) hk_)),(Kd.freshB (g:=gb134) (o:=.cells #[.int .i64 a0_0,.int .i64 a0_1,.slice A0_2 l0_2.length c0_2] 50 (0,0)) (zB BK134) k_ hk_)⟩)) (below_size (zW HB)));replace BK134:=zo (blk_below (zB BK134) hb);replace HB:=zo (below_step (zW HB) hb);clear hb ho7;obtain ⟨Ao8,co8,eo8⟩:=Kd.N_slice HO137.out;subst eo8))
 go_loopg [10] k (fun kq v10 w'=>∃ (x3_1 : List (List Int)) (x10_1 : Int),v10 = .int .i64 x10_1∧Aside0 (matrix_rows.l0 kq x3_1 (y135.length : Int) x10_1 a0_0 a0_1 l0_2=some r)∧Aside0 (kq≤k)∧Aside0 (Kd.N (Kd.slice 3 (Kd.int .i64)) 48 w' w.heap.size (fun k_=>(P0_2_ k_∨w.heap.size≤k_)∧k_≠gb134) (.slice Ao8 y135.length co8) x3_1)∧Aside0 (Kd.V (Kd.int .i64) 3 w' w.heap.size (fun k_=>(P0_2_ k_∨w.heap.size≤k_)∧some k_≠((.slice Ao8 y135.length co8) : Value).ownBlock∧k_≠gb134) (.slice A0_2 l0_2.length c0_2) l0_2)∧Aside0 (w'.heap[gb134]?=some (.cells #[.int .i64 a0_0,.int .i64 a0_1,(.slice A0_2 l0_2.length c0_2)] 50 (0,0)))∧Aside0 (Below w.heap.size w w'))
 case atStart=>exact ⟨(y135),(0),zE,H',⟨Nat.le_refl _⟩,⟨zN HO137⟩,⟨by (with_reducible repeat (first|apply Kd.V_alloc|apply Kd.V_drewN|apply Kd.V_drew));exact Kd.V_mono HO0_2.out (fun _ hk=>⟨hk.1.1,⟨hk.2,hk.1.2⟩⟩)⟩,⟨zB BK134⟩,⟨zW HB⟩⟩
 case round=>
  clear H'
  try clear c2
  try clear c2b0
  try clear c2b1
  try clear p2
  try clear c3
  try clear c3b0
  try clear c3b1
  try clear c6
  obtain ⟨x3_1,x10_1,rfl,HA,HK1,HO_3,HO_135002,BK134,HB⟩:=hrel;have hl3_1:=(Kd.N_reads' HO_3.out).1;rw [hl3_1] at HO_3;(try simp only [hl3_1]);(try simp only [hl3_1] at BK134);(try simp only [hl3_1] at HO_135002)
  cases gk with
  | zero=>exact absurd HA.out (by simp [matrix_rows.l0])
  | succ k1=>
   have H:=HA.out;clear HA;simp only [matrix_rows.l0] at H
   by_cases c9 : x10_1<(y135.length : Int)
   rotate_left
   ·rw [if_neg c9] at H;have c9b0:=decide_eq_false c9;(try (have c9b1 : decide (x10_1<((x3_1.length : Nat) : Int))=false:=by rw [← show y135.length=x3_1.length from hl3_1];exact decide_eq_false c9));clear c9;obtain rfl:=Option.some.inj H
    go_wp2
    go_ret
    exact ⟨_,zX,by (with_reducible repeat (first|apply Kd.N_alloc|apply Kd.N_drewN|apply Kd.N_drew));exact Kd.N_mono HO_3.out (fun _ hk=>hk.1),zW HB⟩
   rw [if_pos c9] at H;have c9b0:=decide_eq_true c9;(try (have c9b1 : decide (x10_1<((x3_1.length : Nat) : Int))=true:=by rw [← show y135.length=x3_1.length from hl3_1];exact decide_eq_true c9));clear c9;obtain ⟨ji10,hji10⟩ : ∃ j_ : Int,(wrap64 (x10_1*a0_0))=j_:=⟨_,rfl⟩;(first|rw [hji10] at H|simp only [hji10] at H);have hji10w : (IntKind.i64.wrap (x10_1*a0_0))=ji10:=(i64_w _).trans hji10
   by_cases c11 : 0≤(ji10)
   rotate_left
   ·rw [if_neg c11] at H;exact absurd H (by simp)
   rw [if_pos c11] at H;have c11b0:=eq_true c11;have c11b1:=decide_eq_true c11;clear c11
   by_cases c12 : (ji10)≤(wrap64 ((wrap64 (x10_1+1))*a0_0))
   rotate_left
   ·rw [if_neg c12] at H;exact absurd H (by simp)
   rw [if_pos c12] at H;have c12b0:=eq_true c12;have c12b1 : decide ((ji10)≤(wrap64 ((wrap64 (x10_1+1))*a0_0)))=true:=decide_eq_true c12
   by_cases c13 : (wrap64 ((wrap64 (x10_1+1))*a0_0))≤(l0_2.length : Int)
   rotate_left
   ·rw [if_neg c13] at H;exact absurd H (by simp)
   rw [if_pos c13] at H;have c13b0:=eq_true c13;have c13b1 : decide ((wrap64 ((wrap64 (x10_1+1))*a0_0))≤(l0_2.length : Int))=true:=decide_eq_true c13;obtain ⟨y138,hy138⟩ : ∃ y_ : List Int,y_=((l0_2.take ((wrap64 ((wrap64 (x10_1+1))*a0_0)) : Int).toNat).drop ((ji10) : Int).toNat):=⟨_,rfl⟩;replace H : (if 0≤x10_1 then (if x10_1<(x3_1.length : Int) then (matrix_rows.l0 k1 (x3_1.set (x10_1 : Int).toNat y138) (y135.length : Int) (wrap64 (x10_1+1)) a0_0 a0_1 l0_2) else (none)) else (none))=some r:=by first|(rw [hy138];with_reducible exact H)|(have H2_:=(Option.bind_some _ _).symm.trans H;rw [hy138];with_reducible exact H2_)|(have H2_:=(Option.bind_some _ _).symm.trans H;with_reducible exact H2_)|with_reducible exact H|(rw [hy138];exact H)|exact H
   have Ny138:=zo hy138;clear hy138
   by_cases c14 : 0≤x10_1
   rotate_left
   ·rw [if_neg c14] at H;exact absurd H (by simp)
   rw [if_pos c14] at H;have c14b0:=decide_eq_true c14;clear c14
   by_cases c15 : x10_1<(x3_1.length : Int)
   rotate_left
   ·rw [if_neg c15] at H;exact absurd H (by simp)
   rw [if_pos c15] at H;have c15b0:=decide_eq_true c15;clear c15;obtain ⟨y143,hy143⟩ : ∃ y_ : List (List Int),y_=(x3_1.set (x10_1 : Int).toNat y138):=⟨_,rfl⟩;replace H : (matrix_rows.l0 k1 y143 (y135.length : Int) (wrap64 (x10_1+1)) a0_0 a0_1 l0_2)=some r:=by first|(rw [hy143];with_reducible exact H)|(have H2_:=(Option.bind_some _ _).symm.trans H;rw [hy143];with_reducible exact H2_)|(have H2_:=(Option.bind_some _ _).symm.trans H;with_reducible exact H2_)|with_reducible exact H|(rw [hy143];exact H)|exact H
   have Ny143:=zo hy143;clear hy143;have H':=zo H;clear H;obtain ⟨hcz17_0,hfz17_0,hcz17_1,hfz17_1,hcz17_2,hfz17_2⟩:=zn3 BK134;have q18 : ((wrap64 ((wrap64 (x10_1+1))*a0_0)) : Int)≤((l0_2.length : Int) : Int):=zD;obtain ⟨i018,hi018,_,hsz18,_⟩:=info_parts info3;have hroom18 : l0_2.length≤c0_2:=(Kd.V_reads' HO_135002.out).2.1;have hC18 : Kd.F (Kd.int .i64) _ _ A0_2 l0_2.length l0_2:=(Kd.V_at (base:=w.heap.size) HO_135002.out).2.2;have ql18 : ((ji10) : Int)≤((wrap64 ((wrap64 (x10_1+1))*a0_0)) : Int):=zD;have q018 : (0 : Int)≤((ji10) : Int):=zD;have hcut18:=cut_cap (P:=Try.prog) 48 3 .i64 .i64 .i64 Try.underlying48 hi018 1 hsz18 A0_2 l0_2.length c0_2 (ji10) (wrap64 ((wrap64 (x10_1+1))*a0_0)) q018 ql18 q18 hroom18;have hr18:=Kd.F_midc (lo:=((ji10) : Int).toNat) (hi:=((wrap64 ((wrap64 (x10_1+1))*a0_0)) : Int).toNat) hC18 (by omega) (by omega);obtain ⟨A18,hA18⟩ : ∃ A1,A1=(if ((wrap64 ((wrap64 (x10_1+1))*a0_0)) : Int).toNat=((ji10) : Int).toNat then A0_2 else (A0_2 : Option Addr).map (·.add (((ji10) : Int).toNat*1))):=⟨_,rfl⟩;have hy18 : y138.length=((wrap64 ((wrap64 (x10_1+1))*a0_0)) : Int).toNat - ((ji10) : Int).toNat:=(by rw [Ny138.out,List.length_drop,List.length_take] <;> omega);rw [show ((l0_2).take ((wrap64 ((wrap64 (x10_1+1))*a0_0)) : Int).toNat).drop ((ji10) : Int).toNat=y138 from Ny138.out.symm] at hr18;replace hr18 : Kd.F (Kd.int .i64) _ _ A18 y138.length y138:=(by rw [hA18];exact hr18);rw [← hy18,← hA18] at hcut18;have HO142:=zo (show Kd.V (Kd.int .i64) 3 _ w.heap.size _ (.slice A18 y138.length y138.length) y138 from Kd.V_mk (Nat.le_refl _) hr18);have HC142:=zo (Nat.le_refl y138.length);clear hr18 hC18 hroom18 hi018 hsz18;have KY18:=zo hy18;have KA18:=zo hA18;clear hy18 hA18;replace q18:=eq_true q18;have p16 : 0≤(x10_1 : Int):=zD;have q16 : (x10_1 : Int)<((x3_1.length : Int) : Int):=zD;obtain ⟨go16,co16,eo16,gb16,gl16,cl16,HG16⟩:=Kd.N_form HO_3.out (by omega);(first|cases eo16|(injection eo16 with ea_ en_ ec_;(first|subst ea_|(injection ea_ with ea_;subst ea_));subst ec_;clear en_));have GB16:=zo gb16;have GG16:=zo HG16;clear gb16 gl16 HG16;obtain ⟨ce16,hcl16,hM16,hcc16,hfr16⟩:=Kd.N_elem HO_3.out [] (x10_1 : Int) p16 q16;obtain ⟨ua16_0,uc16_0,rfl,ul16_0,ge16_0⟩:=Kd.FK_slice_open hM16;have hx16_0:=hcc16 0 _ rfl;have hf16_0:=hfr16 0;(try simp only [show ((Kd.slice 3 (Kd.int .i64))).sz=1 from rfl,Nat.mul_one,Nat.add_zero] at hx16_0);(try simp only [show ((Kd.slice 3 (Kd.int .i64))).sz=1 from rfl,Nat.mul_one,Nat.add_zero] at hf16_0);clear hcl16 hcc16 hfr16 hM16;replace p16:=eq_true p16;replace q16:=eq_true q16;have HX19:=zo (show Kd.N (Kd.slice 3 (Kd.int .i64)) 48 wr w.heap.size (fun k_=>(P0_2_ k_∨w.heap.size≤k_)∧k_≠gb134) (.slice (some ⟨go16,0,none⟩) x3_1.length co8) x3_1 from (zN HO_3));obtain ⟨ce19,hcl19,hM19,hcc19,hfr19⟩:=Kd.N_elem HX19.out [] (x10_1 : Int) (zD) (by have h_ : (x10_1 : Int)<((x3_1.length : Int) : Int):=zD;first|exact h_|(have e_:=(Kd.N_reads' HO_3.out).1;omega)|simpa using h_);obtain ⟨ua19_0,uc19_0,rfl,ul19_0,ge19_0⟩:=Kd.FK_slice_open hM19;have HP19:=Kd.N_seg HX19.out (x10_1 : Int) (zD) (by have h_ : (x10_1 : Int)<((x3_1.length : Int) : Int):=zD;first|exact h_|(have e_:=(Kd.N_reads' HO_3.out).1;omega)|simpa using h_) (seg:=[.slice A18 y138.length y138.length]) (j:=0) hcl19 hcc19 (show 1≤1 from by decide) (x':=y138) (Kd.FK_slice_mk (Kd.V_reads' (Kd.V_mono (ok':=(fun k_=>((fun k_=>(P0_2_ k_∨w.heap.size≤k_)∧k_≠gb134)) k_∧k_≠go16)) (HO142.out) (fun k_ hk=>⟨⟨hk.1,hk.2.2⟩,fun e_=>(hk.2.1) (by rw [e_];rfl)⟩))).2.1 (Kd.V_F (Kd.V_mono (ok':=(fun k_=>((fun k_=>(P0_2_ k_∨w.heap.size≤k_)∧k_≠gb134)) k_∧k_≠go16)) (HO142.out) (fun k_ hk=>⟨⟨hk.1,hk.2.2⟩,fun e_=>(hk.2.1) (by rw [e_];rfl)⟩)))) (fun _ hk=>hk);have hx19_0:=hcc19 0 _ rfl;(try simp only [show ((Kd.slice 3 (Kd.int .i64))).sz=1 from rfl,Nat.mul_one,Nat.add_zero] at hx19_0);have hf19_0:=hfr19 0;(try simp only [show ((Kd.slice 3 (Kd.int .i64))).sz=1 from rfl,Nat.mul_one,Nat.add_zero] at hf19_0);clear hcl19 hcc19 hfr19 hM19;(try simp only [show ((Kd.slice 3 (Kd.int .i64))).sz=1 from rfl,Nat.mul_one,Nat.add_zero] at HP19);(try simp only [show ((Kd.slice 3 (Kd.int .i64))).sz=1 from rfl,Nat.mul_one,Nat.add_zero] at HP19)
   go_wp2_with (first|((with_reducible refine gate_store (t:=48) (p:=32) rfl ?_);refine store_event (t:=48) (p:=32) (v:=?vo_w20) (w1:=(wr.setCell ⟨go16,(x10_1 : Int).toNat,none⟩ (.slice A18 y138.length y138.length))) ?hg ?ho ?hn ?hr ?_;(case ho=>rfl);(case hg=>rfl);(case hn=>rfl);(case hr=>first|(go_simp;done)|(go_simp;rfl));intro w20 hw;have hg : wr.grownBy w20 (some go16):=(by rw [hw];exact HP19.2);have hp_ : Kd.N (Kd.slice 3 (Kd.int .i64)) 48 w20 w.heap.size (fun k_=>(P0_2_ k_∨w.heap.size≤k_)∧k_≠gb134) (.slice (some ⟨go16,0,none⟩) x3_1.length co8) y143:=(by rw [hw,Ny143.out];exact HP19.1);clear HP19;replace HO_135002:=zo (Kd.V_afterv (v:=(.slice (some ⟨go16,0,none⟩) x3_1.length co8)) (v1:=(.slice (some ⟨go16,0,none⟩) x3_1.length co8)) (ok:=(fun k_=>(P0_2_ k_∨w.heap.size≤k_)∧k_≠gb134)) (by (with_reducible repeat (first|apply Kd.V_alloc|apply Kd.V_drewN|apply Kd.V_drew));exact Kd.V_mono HO_135002.out (fun _ hk=>⟨⟨hk.1,hk.2.2⟩,hk.2.1⟩)) hg (.inl rfl));replace BK134:=zo (blk_grown (zB BK134) hg (Kd.N_ne HO_3.out BK134.out (by decide)));replace HO_3:=zo hp_;replace HO142:=zo (Kd.V_afterv (v:=(.slice (some ⟨go16,0,none⟩) x3_1.length co8)) (v1:=(.slice (some ⟨go16,0,none⟩) x3_1.length co8)) (ok:=(fun k_=>(P0_2_ k_∨w.heap.size≤k_)∧k_≠gb134)) (by (with_reducible repeat (first|apply Kd.V_alloc|apply Kd.V_drewN|apply Kd.V_drew));exact Kd.V_mono HO142.out (fun _ hk=>⟨⟨hk.1,hk.2.2⟩,hk.2.1⟩)) hg (.inl rfl));replace HB:=zo ((by rw [hw];exact below_set (HB.out) GB16.out : Below w.heap.size w w20));clear hg hw hp_))
   (try simp only [← hl3_1])
   go_roundg k1
   case measure=>have:=HK1.out;omega
   case rel=>exact ⟨(y143),(wrap64 (x10_1+1)),zE,H',⟨by have:=HK1.out;omega⟩,⟨by (try simp only [hl3_1]);(with_reducible repeat (first|apply Kd.N_alloc|apply Kd.N_drewN|apply Kd.N_drew));exact HO_3.out⟩,⟨by (try simp only [hl3_1]);(with_reducible repeat (first|apply Kd.V_alloc|apply Kd.V_drewN|apply Kd.V_drew));exact Kd.V_mono HO_135002.out (fun _ hk=>⟨hk.1.1,⟨hk.2,hk.1.2⟩⟩)⟩,⟨by (try simp only [hl3_1]);(with_reducible repeat (first|refine blk_drewN ?_ _|refine blk_drew ?_|refine blk_alloc ?_ _));exact BK134.out⟩,⟨zW HB⟩⟩

end Go.Proofs.Ytcnmemcclhahnaa.QT
