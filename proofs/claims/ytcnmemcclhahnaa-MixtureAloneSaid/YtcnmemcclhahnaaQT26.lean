-- Written by a program of this session, out of the seat's translation; checked by the kernel alone.
import Derived.Test.YtcnmemcclhahnaaQT0
namespace Go.Proofs.Ytcnmemcclhahnaa.QT
open Go.RowKit Go.Proofs.YtcnmemcclhahnaaW.PrintWords Go.Proofs.YtcnmemcclhahnaaW.PrintLast Go.Proofs.YtcnmemcclhahnaaW.PrintMore
attribute [local go_sem] max2_int min2_int max_two min_two max_three min_three max_four min_four   -- for this text's walks alone
set_option linter.unusedVariables false
set_option linter.unusedSimpArgs false

def soundserviceref04_SameData.l0 : Nat→List Int→List Int→Int→Int→Option (Bool)
 | 0,_,_,_,_=>none
 | k+1,x0,x1,x12,x13=>if x13<x12 then (if 0≤x13 then (if x13<(x0.length : Int) then (if x13<(x1.length : Int) then (if (rd x0 x13)=(rd x1 x13) then (soundserviceref04_SameData.l0 k x0 x1 x12 (wrap64 (x13+1))) else (some false)) else (none)) else (none)) else (none)) else (some true)
def soundserviceref04_SameData.f (k : Nat) (l0 : List Int) (l1 : List Int) : Option (Bool):=if (l0.length : Int)=(l1.length : Int) then (soundserviceref04_SameData.l0 k l0 l1 (l0.length : Int) 0) else (some false)
theorem soundserviceref04_SameData.mono_l : ∀ k,(∀ y0 y1 y2 y3,LeO (soundserviceref04_SameData.l0 k y0 y1 y2 y3) (soundserviceref04_SameData.l0 (k+1) y0 y1 y2 y3))
 | 0=>fun _ _ _ _ r h=>by simp [soundserviceref04_SameData.l0] at h
 | k+1=>by
  have ih0:=soundserviceref04_SameData.mono_l k
  ·intro y0 y1 y2 y3;unfold soundserviceref04_SameData.l0
   repeat' first
   | (with_reducible exact ih0 _ _ _ _)
   | (with_reducible exact LeO.refl _)
   | (with_reducible exact LeO.none _)
   | (with_reducible refine LeO.ite ?_ ?_)
   | (with_reducible refine LeO.bind ?_ (fun _=>?_))
   | exact ih0 _ _ _ _
   | exact LeO.none _
   | refine LeO.ite ?_ ?_
   | refine LeO.bind ?_ (fun _=>?_)
theorem soundserviceref04_SameData.mono : ∀ a0 a1 k,LeO (soundserviceref04_SameData.f k a0 a1) (soundserviceref04_SameData.f (k+1) a0 a1):=by
 intro a0 a1 k;have ih0:=soundserviceref04_SameData.mono_l k;unfold soundserviceref04_SameData.f
 repeat' first
   | (with_reducible exact ih0 _ _ _ _)
   | (with_reducible exact LeO.refl _)
   | (with_reducible exact LeO.none _)
   | (with_reducible refine LeO.ite ?_ ?_)
   | (with_reducible refine LeO.bind ?_ (fun _=>?_))
   | exact ih0 _ _ _ _
   | exact LeO.none _
   | refine LeO.ite ?_ ?_
   | refine LeO.bind ?_ (fun _=>?_)
set_option maxHeartbeats 8000000 in
set_option maxRecDepth 100000 in
theorem soundserviceref04_SameData.calls (k : Nat) (A0 : Option Addr) (c0 : Nat) (l0 : List Int) (A1 : Option Addr) (c1 : Nat) (l1 : List Int) (r : Bool) (w : World) (hr0 : Kd.C (Kd.int .i32) w A0 l0.length l0) (hc0 : l0.length≤c0) (hr1 : Kd.C (Kd.int .i32) w A1 l1.length l1) (hc1 : l1.length≤c1) (h : soundserviceref04_SameData.f k l0 l1=some r) :
  Calls Try.prog 38 #[.slice A0 l0.length c0,.slice A1 l1.length c1] w fun e w'=>e = .returned (.bool r)∧Drawn0 w w':=by
 have HR0:=zo hr0;have HC0:=zo hc0;clear hr0 hc0;have HR1:=zo hr1;have HC1:=zo hc1;clear hr1 hc1;have H:=h;unfold soundserviceref04_SameData.f at H;clear h
 by_cases c3 : (l0.length : Int)=(l1.length : Int)
 rotate_left
 ·rw [if_neg c3] at H;have c3b0 : ((l0.length : Int) == (l1.length : Int))=false:=beq_eq_false_iff_ne.mpr c3;have c3b1 : ((l0.length : Int) != (l1.length : Int))=true:=bne_iff_ne.mpr c3;have c3b2 : (l0.length == l1.length)=false:=by first|simpa using c3|(simp at c3 ⊢;omega)
  obtain rfl:=Option.some.inj H
  go_enter Try.func38,Try.ntmps38
  go_wp2
  repeat (go_quiet (fail);try go_wp2)
  go_ret
  exact ⟨by first|rfl|(simp;done)|(simp [*];done),by repeat (first|exact Drawn0.refl _|apply Drawn0.step)⟩
 rw [if_pos c3] at H;have c3b0 : ((l0.length : Int) == (l1.length : Int))=true:=beq_iff_eq.mpr c3;have c3b1 : ((l0.length : Int) != (l1.length : Int))=false:=bne_eq_false_iff_eq.mpr c3;have c3b2 : (l0.length == l1.length)=true:=by first|simpa using c3|(simp at c3 ⊢;omega)
 clear c3;have H':=zo H;clear H
 go_enter Try.func38,Try.ntmps38
 go_wp2
 repeat (go_quiet (fail);try go_wp2)
 go_loopg [13] k (fun kq v13 w'=>∃ (x13_1 : Int),v13 = .int .i64 x13_1∧Aside0 (soundserviceref04_SameData.l0 kq l0 l1 (l0.length : Int) x13_1=some r)∧Aside0 (kq≤k)∧Drawn0 w w')
 case atStart=>exact ⟨(0),zE,H',⟨Nat.le_refl _⟩,by repeat (first|exact Drawn0.refl _|apply Drawn0.step)⟩
 case round=>
  clear H'
  try clear c1
  try clear p2
  try clear c3
  try clear c3b0
  try clear c3b1
  try clear c3b2
  obtain ⟨x13_1,rfl,HA,HK1,⟨m1,rfl⟩⟩:=hrel
  cases gk with
  | zero=>exact absurd HA.out (by simp [soundserviceref04_SameData.l0])
  | succ k1=>
   have H:=HA.out;clear HA;simp only [soundserviceref04_SameData.l0] at H
   by_cases c4 : x13_1<(l0.length : Int)
   rotate_left
   ·rw [if_neg c4] at H;have c4b0:=decide_eq_false c4;clear c4;obtain rfl:=Option.some.inj H
    go_wp2
    repeat (go_quiet (fail);try go_wp2)
    go_ret
    exact ⟨by first|rfl|(simp;done)|(simp [*];done),by repeat (first|exact Drawn0.refl _|apply Drawn0.step)⟩
   rw [if_pos c4] at H;have c4b0:=decide_eq_true c4;clear c4
   by_cases c5 : 0≤x13_1
   rotate_left
   ·rw [if_neg c5] at H;exact absurd H (by simp)
   rw [if_pos c5] at H;have c5b0:=decide_eq_true c5;clear c5
   by_cases c6 : x13_1<(l0.length : Int)
   rotate_left
   ·rw [if_neg c6] at H;exact absurd H (by simp)
   rw [if_pos c6] at H;have c6b0:=decide_eq_true c6;clear c6
   by_cases c7 : x13_1<(l1.length : Int)
   rotate_left
   ·rw [if_neg c7] at H;exact absurd H (by simp)
   rw [if_pos c7] at H;have c7b0:=decide_eq_true c7;clear c7
   by_cases c8 : (rd l0 x13_1)=(rd l1 x13_1)
   rotate_left
   ·rw [if_neg c8] at H;have c8b0 : ((rd l0 x13_1) == (rd l1 x13_1))=false:=beq_eq_false_iff_ne.mpr c8;have c8b1 : ((rd l0 x13_1) != (rd l1 x13_1))=true:=bne_iff_ne.mpr c8;obtain rfl:=Option.some.inj H;have p474 : 0≤(x13_1 : Int):=zD;have q474 : x13_1<(l0.length : Int):=zD;obtain ⟨ad474,e474,hx474_0⟩:=Kd.at_int HR0.out x13_1 p474 q474
    cases e474
    replace p474:=eq_true p474;replace q474:=eq_true q474;have p475 : 0≤(x13_1 : Int):=zD;have q475 : x13_1<(l1.length : Int):=zD;obtain ⟨ad475,e475,hx475_0⟩:=Kd.at_int HR1.out x13_1 p475 q475
    cases e475
    replace p475:=eq_true p475;replace q475:=eq_true q475
    go_wp2
    repeat (go_quiet (fail);try go_wp2)
    go_ret
    exact ⟨by first|rfl|(simp;done)|(simp [*];done),by repeat (first|exact Drawn0.refl _|apply Drawn0.step)⟩
   rw [if_pos c8] at H;have c8b0 : ((rd l0 x13_1) == (rd l1 x13_1))=true:=beq_iff_eq.mpr c8;have c8b1 : ((rd l0 x13_1) != (rd l1 x13_1))=false:=bne_eq_false_iff_eq.mpr c8;clear c8;have H':=zo H;clear H;have p474 : 0≤(x13_1 : Int):=zD;have q474 : x13_1<(l0.length : Int):=zD;obtain ⟨ad474,e474,hx474_0⟩:=Kd.at_int HR0.out x13_1 p474 q474
   cases e474
   replace p474:=eq_true p474;replace q474:=eq_true q474;have p475 : 0≤(x13_1 : Int):=zD;have q475 : x13_1<(l1.length : Int):=zD;obtain ⟨ad475,e475,hx475_0⟩:=Kd.at_int HR1.out x13_1 p475 q475
   cases e475
   replace p475:=eq_true p475;replace q475:=eq_true q475
   go_wp2
   repeat (go_quiet (fail);try go_wp2)
   go_roundg k1
   case measure=>have:=HK1.out;omega
   case rel=>exact ⟨(wrap64 (x13_1+1)),zE,H',⟨by have:=HK1.out;omega⟩,by repeat (first|exact Drawn0.refl _|apply Drawn0.step)⟩

def soundserviceref04_Same.f (k : Nat) (a0_0 : Int) (l0_1 : List Int) (a1_0 : Int) (l1_1 : List Int) : Option (Bool):=if a0_0=a1_0 then ((soundserviceref04_SameData.f k l0_1 l1_1).bind fun t478=>(some t478)) else (some false)
theorem soundserviceref04_Same.mono : ∀ a0 a1 a2 a3 k,LeO (soundserviceref04_Same.f k a0 a1 a2 a3) (soundserviceref04_Same.f (k+1) a0 a1 a2 a3):=by
 intro a0 a1 a2 a3 k;unfold soundserviceref04_Same.f
 repeat' first
   | (with_reducible exact soundserviceref04_SameData.mono _ _ _)
   | (with_reducible exact LeO.refl _)
   | (with_reducible exact LeO.none _)
   | (with_reducible refine LeO.ite ?_ ?_)
   | (with_reducible refine LeO.bind ?_ (fun _=>?_))
   | exact soundserviceref04_SameData.mono _ _ _
   | exact LeO.none _
   | refine LeO.ite ?_ ?_
   | refine LeO.bind ?_ (fun _=>?_)
set_option maxHeartbeats 8000000 in
set_option maxRecDepth 100000 in
theorem soundserviceref04_Same.calls (k : Nat) (a0_0 : Int) (A0_1 : Option Addr) (c0_1 : Nat) (l0_1 : List Int) (a1_0 : Int) (A1_1 : Option Addr) (c1_1 : Nat) (l1_1 : List Int) (r : Bool) (w : World) (hr0_1 : Kd.C (Kd.int .i32) w A0_1 l0_1.length l0_1) (hc0_1 : l0_1.length≤c0_1) (hr1_1 : Kd.C (Kd.int .i32) w A1_1 l1_1.length l1_1) (hc1_1 : l1_1.length≤c1_1) (h : soundserviceref04_Same.f k a0_0 l0_1 a1_0 l1_1=some r) :
  Calls Try.prog 19 #[.agg #[.int .i64 a0_0,.slice A0_1 l0_1.length c0_1],.agg #[.int .i64 a1_0,.slice A1_1 l1_1.length c1_1]] w fun e w'=>e = .returned (.bool r)∧Below w.heap.size w w':=by
 have hu43:=Try.underlying43;have HR0_1:=zo hr0_1;have HC0_1:=zo hc0_1;clear hr0_1 hc0_1;have HR1_1:=zo hr1_1;have HC1_1:=zo hc1_1;clear hr1_1 hc1_1;have HB:=zo (Below.refl w.heap.size w);have H:=h;unfold soundserviceref04_Same.f at H;clear h
 by_cases c3 : a0_0=a1_0
 rotate_left
 ·rw [if_neg c3] at H;have c3b0 : (a0_0 == a1_0)=false:=beq_eq_false_iff_ne.mpr c3;have c3b1 : (a0_0 != a1_0)=true:=bne_iff_ne.mpr c3;obtain rfl:=Option.some.inj H
  go_enter Try.func19,Try.ntmps19
  go_wp2_with (first|((with_reducible refine gate_dst (N:=2) rfl ?_);refine box_event ?hg (N:=2) ?hd (cs:=#[.int .i64 a0_0,.slice A0_1 l0_1.length c0_1]) (t:=43) ?hr ?_;(case hd=>rfl);(case hg=>rfl);(case hr=>first|(go_simp;done)|(go_simp;rfl));intro gb476 hg w10 hbox hb;have BK476:=zo hbox;have GW476:=zo (zS hg HB);have GE476:=zo (zS hg HB);replace HB:=zo (below_step (zW HB) hb);clear hb hbox hg)|((with_reducible refine gate_dst (N:=3) rfl ?_);refine box_event ?hg (N:=3) ?hd (cs:=#[.int .i64 a1_0,.slice A1_1 l1_1.length c1_1]) (t:=43) ?hr ?_;(case hd=>rfl);(case hg=>rfl);(case hr=>first|(go_simp;done)|(go_simp;rfl));intro gb477 hg w11 hbox hb;have BK477:=zo hbox;have GW477:=zo (zS hg HB);have GE477:=zo (zS hg HB);replace HB:=zo (below_step (zW HB) hb);have NB476_477:=zo (zL hg BK476);have NB477_476:=zo (zG hg BK476);replace BK476:=zo (blk_below (zB BK476) hb);clear hb hbox hg;have hnb12:=NB476_477.out;have hnc12:=NB477_476.out;obtain ⟨hcz13_0,hfz13_0,hcz13_1,hfz13_1⟩:=zn2 BK476;obtain ⟨hcz14_0,hfz14_0,hcz14_1,hfz14_1⟩:=zn2 BK477))
  go_ret
  exact ⟨zX,zW HB⟩
 rw [if_pos c3] at H;have c3b0 : (a0_0 == a1_0)=true:=beq_iff_eq.mpr c3;have c3b1 : (a0_0 != a1_0)=false:=bne_eq_false_iff_eq.mpr c3;clear c3;replace H:=Option.bind_eq_some_iff.mp H;obtain ⟨t478,A40,H⟩:=H
 try dsimp only at H
 have A4:=zo A40;clear A40;obtain rfl:=Option.some.inj H
 go_enter Try.func19,Try.ntmps19
 go_wp2_with (first|((with_reducible refine gate_dst (N:=2) rfl ?_);refine box_event ?hg (N:=2) ?hd (cs:=#[.int .i64 a0_0,.slice A0_1 l0_1.length c0_1]) (t:=43) ?hr ?_;(case hd=>rfl);(case hg=>rfl);(case hr=>first|(go_simp;done)|(go_simp;rfl));intro gb476 hg w5 hbox hb;have BK476:=zo hbox;have GW476:=zo (zS hg HB);have GE476:=zo (zS hg HB);replace HB:=zo (below_step (zW HB) hb);clear hb hbox hg)|((with_reducible refine gate_dst (N:=3) rfl ?_);refine box_event ?hg (N:=3) ?hd (cs:=#[.int .i64 a1_0,.slice A1_1 l1_1.length c1_1]) (t:=43) ?hr ?_;(case hd=>rfl);(case hg=>rfl);(case hr=>first|(go_simp;done)|(go_simp;rfl));intro gb477 hg w6 hbox hb;have BK477:=zo hbox;have GW477:=zo (zS hg HB);have GE477:=zo (zS hg HB);replace HB:=zo (below_step (zW HB) hb);have NB476_477:=zo (zL hg BK476);have NB477_476:=zo (zG hg BK476);replace BK476:=zo (blk_below (zB BK476) hb);clear hb hbox hg;have hnb7:=NB476_477.out;have hnc7:=NB477_476.out;obtain ⟨hcz8_0,hfz8_0,hcz8_1,hfz8_1⟩:=zn2 BK476;obtain ⟨hcz9_0,hfz9_0,hcz9_1,hfz9_1⟩:=zn2 BK477)|(go_at_call 38;(with_reducible refine (soundserviceref04_SameData.calls k _ _ l0_1 _ _ l1_1 t478 _ ?side1 ?side2 ?side3 ?side4 A4.out).mono ?_);(case side1=>repeat (first|exact (Kd.C_below HR0_1.out HB.out)|(with_reducible refine Kd.C_alloc ?_ _)|(with_reducible refine Kd.C_drewN ?_ _)|(with_reducible refine Kd.C_drew ?_)));(case side2=>exact HC0_1.out);(case side3=>repeat (first|exact (Kd.C_below HR1_1.out HB.out)|(with_reducible refine Kd.C_alloc ?_ _)|(with_reducible refine Kd.C_drewN ?_ _)|(with_reducible refine Kd.C_drew ?_)));(case side4=>exact HC1_1.out);rintro e w' ⟨rfl,⟨nd,rfl⟩⟩))
 go_ret
 exact ⟨zX,zW HB⟩

end Go.Proofs.Ytcnmemcclhahnaa.QT
