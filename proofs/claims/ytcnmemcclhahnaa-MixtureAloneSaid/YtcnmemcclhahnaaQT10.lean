-- Written by a program of this session, out of the seat's translation; checked by the kernel alone.
import Derived.Test.YtcnmemcclhahnaaQT0
namespace Go.Proofs.Ytcnmemcclhahnaa.QT
open Go.RowKit Go.Proofs.YtcnmemcclhahnaaW.PrintWords Go.Proofs.YtcnmemcclhahnaaW.PrintLast Go.Proofs.YtcnmemcclhahnaaW.PrintMore
attribute [local go_sem] max2_int min2_int max_two min_two max_three min_three max_four min_four   -- for this text's walks alone
set_option linter.unusedVariables false
set_option linter.unusedSimpArgs false

mutual
def soundserviceref07_Identity.j0 : Nat→Int→Bool→Option (Int×Int×List Int×Int)
 | 0,_,_=>none
 | k+1,x0,x11=>if x11=true then (some (0,0,([] : List Int),2)) else (if 0≤(wrap64 (x0*x0)) then (if (wrap64 (x0*x0) : Int).toNat≤35184372088832 then (soundserviceref07_Identity.l0 k x0 0 x0 x0 (List.replicate (wrap64 (x0*x0) : Int).toNat 0)) else (none)) else (none))
def soundserviceref07_Identity.l0 : Nat→Int→Int→Int→Int→List Int→Option (Int×Int×List Int×Int)
 | 0,_,_,_,_,_=>none
 | k+1,x0,x5,x269000,x269001,x269002=>if x5<x0 then (if 0≤(wrap64 ((wrap64 (x5*x0))+x5)) then (if (wrap64 ((wrap64 (x5*x0))+x5))<(x269002.length : Int) then (soundserviceref07_Identity.l0 k x0 (wrap64 (x5+1)) x269000 x269001 (x269002.set ((wrap64 ((wrap64 (x5*x0))+x5)) : Int).toNat 32768)) else (none)) else (none)) else (some (x269000,x269001,x269002,0))
end
def soundserviceref07_Identity.f (k : Nat) (a0 : Int) : Option (Int×Int×List Int×Int):=if a0<1 then (soundserviceref07_Identity.j0 k a0 true) else (soundserviceref07_Identity.j0 k a0 (decide (a0>8)))
theorem soundserviceref07_Identity.mono_l : ∀ k,(∀ y0 y1,LeO (soundserviceref07_Identity.j0 k y0 y1) (soundserviceref07_Identity.j0 (k+1) y0 y1))∧(∀ y0 y1 y2 y3 y4,LeO (soundserviceref07_Identity.l0 k y0 y1 y2 y3 y4) (soundserviceref07_Identity.l0 (k+1) y0 y1 y2 y3 y4))
 | 0=>⟨fun _ _ r h=>by simp [soundserviceref07_Identity.j0] at h,fun _ _ _ _ _ r h=>by simp [soundserviceref07_Identity.l0] at h⟩
 | k+1=>by
  obtain ⟨ih0,ih1⟩:=soundserviceref07_Identity.mono_l k;refine ⟨?_,?_⟩
  ·intro y0 y1;unfold soundserviceref07_Identity.j0
   repeat' first
   | (with_reducible exact ih0 _ _)
   | (with_reducible exact ih1 _ _ _ _ _)
   | (with_reducible exact LeO.refl _)
   | (with_reducible exact LeO.none _)
   | (with_reducible refine LeO.ite ?_ ?_)
   | (with_reducible refine LeO.bind ?_ (fun _=>?_))
   | exact ih0 _ _
   | exact ih1 _ _ _ _ _
   | exact LeO.none _
   | refine LeO.ite ?_ ?_
   | refine LeO.bind ?_ (fun _=>?_)
  ·intro y0 y1 y2 y3 y4;unfold soundserviceref07_Identity.l0
   repeat' first
   | (with_reducible exact ih0 _ _)
   | (with_reducible exact ih1 _ _ _ _ _)
   | (with_reducible exact LeO.refl _)
   | (with_reducible exact LeO.none _)
   | (with_reducible refine LeO.ite ?_ ?_)
   | (with_reducible refine LeO.bind ?_ (fun _=>?_))
   | exact ih0 _ _
   | exact ih1 _ _ _ _ _
   | exact LeO.none _
   | refine LeO.ite ?_ ?_
   | refine LeO.bind ?_ (fun _=>?_)
theorem soundserviceref07_Identity.mono : ∀ a0 k,LeO (soundserviceref07_Identity.f k a0) (soundserviceref07_Identity.f (k+1) a0):=by
 intro a0 k;obtain ⟨ih0,ih1⟩:=soundserviceref07_Identity.mono_l k;unfold soundserviceref07_Identity.f
 repeat' first
   | (with_reducible exact ih0 _ _)
   | (with_reducible exact ih1 _ _ _ _ _)
   | (with_reducible exact LeO.refl _)
   | (with_reducible exact LeO.none _)
   | (with_reducible refine LeO.ite ?_ ?_)
   | (with_reducible refine LeO.bind ?_ (fun _=>?_))
   | exact ih0 _ _
   | exact ih1 _ _ _ _ _
   | exact LeO.none _
   | refine LeO.ite ?_ ?_
   | refine LeO.bind ?_ (fun _=>?_)
set_option maxHeartbeats 8000000 in
set_option maxRecDepth 100000 in
theorem soundserviceref07_Identity.calls (k : Nat) (a0 : Int) (r1 : Int) (r2 : Int) (r3 : List Int) (r4 : Int) (w : World) (h : soundserviceref07_Identity.f k a0=some (r1,r2,r3,r4)) :
  Calls Try.prog 26 #[.int .i64 a0] w fun e w'=>∃ v2_ : Value,e = .returned (.tuple #[.agg #[.int .i64 r1,.int .i64 r2,v2_],.int .i64 r4])∧Kd.R (Kd.int .i64) 3 w' w.heap.size (fun _=>True) v2_ r3∧Below w.heap.size w w':=by
 have hu50:=Try.underlying50;have HB:=zo (Below.refl w.heap.size w);have H:=h;unfold soundserviceref07_Identity.f at H;clear h;have HC2:=zo H;clear H
 go_enter Try.func26,Try.ntmps26
 go_upto_region 1 with (first|((with_reducible refine gate_dst (N:=2) rfl ?_);refine box_event ?hg (N:=2) ?hd (cs:=#[.int .i64 0,.int .i64 0,.slice none 0 0]) (t:=50) ?hr ?_;(case hd=>rfl);(case hg=>rfl);(case hr=>first|(go_simp;done)|(go_simp;rfl));intro gb264 hg w3 hbox hb;have BK264:=zo hbox;have GW264:=zo (zS hg HB);have GE264:=zo (zS hg HB);replace HB:=zo (below_step (zW HB) hb);clear hb hbox hg))
 (try simp only [Act.put,List.setIfInBounds_toArray,List.set_cons_zero,List.set_cons_succ])
 go_cut [11] (fun v11 wc=>∃ (kq : Nat) (x11_1 : Bool),v11 = .bool x11_1∧Aside0 (soundserviceref07_Identity.j0 kq a0 x11_1=some (r1,r2,r3,r4))∧Aside0 (kq≤k)∧Aside0 (wc.heap[gb264]?=some (.cells #[.int .i64 0,.int .i64 0,(.slice none 0 0)] 50 (0,0)))∧Aside0 (Below w.heap.size w wc))
 case first=>
  have H:=HC2.out;clear HC2
  by_cases c4 : a0<1
  ·rw [if_pos c4] at H;have c4b0:=decide_eq_true c4;clear c4;(first|rw [c4b0]|(simp only [i64_w,i32_w];rw [c4b0])|skip);have H':=zo H;clear H
   go_wp2
   go_meet
   case rel=>exact ⟨_,(true),zE,H',⟨zY⟩,⟨zB BK264⟩,⟨zW HB⟩⟩
  rw [if_neg c4] at H;have c4b0:=decide_eq_false c4;clear c4;(first|rw [c4b0]|(simp only [i64_w,i32_w];rw [c4b0])|skip);have H':=zo H;clear H
  go_wp2
  go_meet
  case rel=>exact ⟨_,(decide (a0>8)),zE,H',⟨zY⟩,⟨zB BK264⟩,⟨zW HB⟩⟩
 case rest=>
  clear HC2
  try clear c2
  try clear p2
  try clear c4
  try clear c4b0
  obtain ⟨kq,x11_1,rfl,HA,HJ1,BK264,HB⟩:=hcut
  cases kq with
  | zero=>exact absurd HA.out (by simp [soundserviceref07_Identity.j0])
  | succ kj1=>
   have H:=HA.out;clear HA;simp only [soundserviceref07_Identity.j0] at H
   by_cases c5 : x11_1=true
   ·subst c5;have H1:=H;rw [if_pos rfl] at H1;clear H;have H:=H1;clear H1;simp only [Option.some.injEq,Prod.mk.injEq] at H;obtain ⟨rfl,rfl,rfl,rfl⟩:=H;obtain ⟨hcz6_0,hfz6_0,hcz6_1,hfz6_1,hcz6_2,hfz6_2⟩:=zn3 BK264
    go_wp2
    refine bodyPost_ret (results_ct rfl _ _ gb264 50 #[.int .i64 0,.int .i64 0,.slice none 0 0] (0,0) _ rfl (zB BK264) Try.underlying50 rfl zk) rfl ?_;exact ⟨_,zX,by first|exact Kd.R_nil _ _ _ _ _|exact Kd.N_nil _ _ _ _ _|exact Kd.V_nil _ _ _ _ _|exact Kd.Q_nil _ _ _ _ _|exact Kd.S_nil _ _ _ _ _,zW HB⟩
   replace c5:=Bool.eq_false_iff.mpr c5;subst c5;have H1:=H;rw [if_neg (show ¬ (false=true) by decide)] at H1;clear H;have H:=H1;clear H1;obtain ⟨ji7,hji7⟩ : ∃ j_ : Int,(wrap64 (a0*a0))=j_:=⟨_,rfl⟩;(first|rw [hji7] at H|simp only [hji7] at H);have hji7w : (IntKind.i64.wrap (a0*a0))=ji7:=(i64_w _).trans hji7
   by_cases c8 : 0≤(ji7)
   rotate_left
   ·rw [if_neg c8] at H;exact absurd H (by simp)
   rw [if_pos c8] at H;have c8b0:=eq_true c8;have c8b1:=decide_eq_true c8;clear c8
   by_cases c9 : (ji7 : Int).toNat≤35184372088832
   rotate_left
   ·rw [if_neg c9] at H;exact absurd H (by simp)
   rw [if_pos c9] at H;have c9b0:=eq_true c9;have c9b1:=decide_eq_true c9;clear c9;obtain ⟨y265,hy265⟩ : ∃ y_ : List Int,y_=(List.replicate (ji7 : Int).toNat 0):=⟨_,rfl⟩;replace H : (soundserviceref07_Identity.l0 kj1 a0 0 a0 a0 y265)=some (r1,r2,r3,r4):=by first|(rw [hy265];with_reducible exact H)|(have H2_:=(Option.bind_some _ _).symm.trans H;rw [hy265];with_reducible exact H2_)|(have H2_:=(Option.bind_some _ _).symm.trans H;with_reducible exact H2_)|with_reducible exact H|(rw [hy265];exact H)|exact H
   have Ny265:=zo hy265;clear hy265;have H':=zo H;clear H
   go_wp2_with (first|((with_reducible refine gate_dst (N:=18) rfl ?_);refine Kd.R_make (Kd.int .i64) _ 3 rfl (N:=18) rfl 48 _ _ rfl ji7 rfl rfl Try.underlying48 (.int .i64 0) 8 info3 rfl (by decide) (by omega) 0 (ok:=fun _=>True) (okp:=fun _=>True) rfl (fun _ hk=>hk) trivial (zD) (Nat.le_trans (Nat.mul_le_mul_right _ (zD : ji7.toNat≤35184372088832)) (by omega)) (Below.refl _ _) (Nat.le_refl _) ?_;intro v266 w10 ho11 hb hg_ hnew_;clear hg_ hnew_;(first|rw [← Ny265.out] at ho11|(simp only [Int.reduceToNat] at ho11;rw [← Ny265.out] at ho11));have HO267:=zo (Kd.R_lower ho11 (below_size (zW HB)));replace BK264:=zo (blk_below (zB BK264) hb);replace HB:=zo (below_step (zW HB) hb);clear hb ho11;obtain ⟨Ao12,co12,eo12⟩:=Kd.R_slice HO267.out;subst eo12)|((with_reducible refine gate_dst (N:=4) rfl ?_);refine box_event ?hg (N:=4) ?hd (cs:=#[.int .i64 0,.int .i64 0,.slice none 0 0]) (t:=50) ?hr ?_;(case hd=>rfl);(case hg=>rfl);(case hr=>first|(go_simp;done)|(go_simp;rfl));intro gb268 hg w13 hbox hb;replace HO267:=zo (Kd.R_below (zR HO267) hb);have BK268:=zo hbox;have GW268:=zo (zS hg HB);have GE268:=zo (zS hg HB);replace HB:=zo (below_step (zW HB) hb);have NB264_268:=zo (zL hg BK264);have NB268_264:=zo (zG hg BK264);replace BK264:=zo (blk_below (zB BK264) hb);clear hb hbox hg;have hnb14:=NB268_264.out;have hnc14:=NB264_268.out;obtain ⟨hcz15_0,hfz15_0,hcz15_1,hfz15_1,hcz15_2,hfz15_2⟩:=zn3 BK268))
   go_loopg [5] kj1 (fun kq v5 w'=>∃ (x5_2 : Int) (x269002_2 : List Int) (u269002 : Value),v5 = .int .i64 x5_2∧Aside0 (soundserviceref07_Identity.l0 kq a0 x5_2 a0 a0 x269002_2=some (r1,r2,r3,r4))∧Aside0 (kq≤kj1)∧Aside0 (Kd.R (Kd.int .i64) 3 w' w.heap.size (fun _=>True) u269002 x269002_2)∧Aside0 (w'.heap[gb264]?=some (.cells #[.int .i64 0,.int .i64 0,(.slice none 0 0)] 50 (0,0)))∧Aside0 (w'.heap[gb268]?=some (.cells #[.int .i64 a0,.int .i64 a0,u269002] 50 (0,0)))∧Aside0 (Below w.heap.size w w'))
   case atStart=>exact ⟨(0),(y265),(.slice Ao12 y265.length co12),zE,H',⟨Nat.le_refl _⟩,⟨by (with_reducible repeat (first|apply Kd.R_alloc|apply Kd.R_drewN|apply Kd.R_drew));exact Kd.R_mono (Kd.R_far (p:=⟨gb268,2,none⟩) (Kd.R_far (p:=⟨gb268,1,none⟩) (Kd.R_far (p:=⟨gb268,0,none⟩) (Kd.R_types HO267.out BK268.out (by decide)) (fun _ hk=>hk.2) (.int .i64 a0)) (fun _ hk=>hk.2) (.int .i64 a0)) (fun _ hk=>hk.2) (.slice Ao12 y265.length co12)) (fun _ hk=>trivial)⟩,⟨zB BK264⟩,⟨zB BK268⟩,⟨zW HB⟩⟩
   case round=>
    clear H'
    try clear c1
    try clear c2
    try clear p2
    try clear c4
    try clear c4b0
    try clear c5
    try clear p6
    try clear c8
    try clear c8b0
    try clear c8b1
    try clear c9
    try clear c9b0
    try clear c9b1
    try clear c14
    try clear p2
    obtain ⟨x5_2,x269002_2,u269002,rfl,HA,HK2,HO_269002,BK264,BK268,HB⟩:=hrel
    cases gk with
    | zero=>exact absurd HA.out (by simp [soundserviceref07_Identity.l0])
    | succ k2=>
     have H:=HA.out;clear HA;simp only [soundserviceref07_Identity.l0] at H
     by_cases c16 : x5_2<a0
     rotate_left
     ·rw [if_neg c16] at H;have c16b0:=decide_eq_false c16;clear c16;simp only [Option.some.injEq,Prod.mk.injEq] at H;obtain ⟨rfl,rfl,rfl,rfl⟩:=H;have hnb25:=NB268_264.out;have hnc25:=NB264_268.out;obtain ⟨hcz26_0,hfz26_0,hcz26_1,hfz26_1,hcz26_2,hfz26_2⟩:=zn3 BK268;obtain ⟨hcz27_0,hfz27_0,hcz27_1,hfz27_1,hcz27_2,hfz27_2⟩:=zn3 BK264;obtain ⟨Ao28,co28,eo28⟩:=Kd.R_slice HO_269002.out;subst eo28
      go_wp2
      refine bodyPost_ret (results_ct rfl _ _ gb264 50 #[.int .i64 a0,.int .i64 a0,.slice Ao28 x269002_2.length co28] (0,0) _ rfl (zB BK264) Try.underlying50 rfl zk) rfl ?_;exact ⟨_,by first|rfl|(simp [errW_none,errW_some] <;> rfl)|(simp only [← hji7];first|rfl|(simp [errW_none,errW_some] <;> rfl))|(simp [*,errW_none,errW_some] <;> rfl),by (with_reducible repeat (first|apply Kd.R_alloc|apply Kd.R_drewN|apply Kd.R_drew));exact Kd.R_mono (Kd.R_far (p:=⟨gb264,2,none⟩) (Kd.R_far (p:=⟨gb264,1,none⟩) (Kd.R_far (p:=⟨gb264,0,none⟩) (Kd.R_types HO_269002.out BK264.out (by decide)) (fun _ hk=>hk.2) (.int .i64 a0)) (fun _ hk=>hk.2) (.int .i64 a0)) (fun _ hk=>hk.2) (.slice Ao28 x269002_2.length co28)) (fun _ hk=>trivial),zW HB⟩
     rw [if_pos c16] at H;have c16b0:=decide_eq_true c16;clear c16;obtain ⟨ji17,hji17⟩ : ∃ j_ : Int,(wrap64 ((wrap64 (x5_2*a0))+x5_2))=j_:=⟨_,rfl⟩;(first|rw [hji17] at H|simp only [hji17] at H);have hji17w : (IntKind.i64.wrap ((wrap64 (x5_2*a0))+x5_2))=ji17:=(i64_w _).trans hji17
     by_cases c18 : 0≤(ji17)
     rotate_left
     ·rw [if_neg c18] at H;exact absurd H (by simp)
     rw [if_pos c18] at H;have c18b0:=decide_eq_true c18;clear c18
     by_cases c19 : (ji17)<(x269002_2.length : Int)
     rotate_left
     ·rw [if_neg c19] at H;exact absurd H (by simp)
     rw [if_pos c19] at H;have c19b0:=decide_eq_true c19;clear c19;obtain ⟨y269,hy269⟩ : ∃ y_ : List Int,y_=(x269002_2.set ((ji17) : Int).toNat 32768):=⟨_,rfl⟩;replace H : (soundserviceref07_Identity.l0 k2 a0 (wrap64 (x5_2+1)) a0 a0 y269)=some (r1,r2,r3,r4):=by first|(rw [hy269];with_reducible exact H)|(have H2_:=(Option.bind_some _ _).symm.trans H;rw [hy269];with_reducible exact H2_)|(have H2_:=(Option.bind_some _ _).symm.trans H;with_reducible exact H2_)|with_reducible exact H|(rw [hy269];exact H)|exact H
     have Ny269:=zo hy269;clear hy269;have H':=zo H;clear H;have hnb21:=NB268_264.out;have hnc21:=NB264_268.out;obtain ⟨hcz22_0,hfz22_0,hcz22_1,hfz22_1,hcz22_2,hfz22_2⟩:=zn3 BK268;have p20 : 0≤((ji17) : Int):=zD;have q20 : ((ji17) : Int)<((x269002_2.length : Int) : Int):=zD;obtain ⟨go20,co20,eo20,gb20,gl20,cl20,HG20⟩:=Kd.R_form HO_269002.out (by omega);(first|cases eo20|(injection eo20 with ea_ en_ ec_;(first|subst ea_|(injection ea_ with ea_;subst ea_));subst ec_;clear en_));have GB20:=zo gb20;have GG20:=zo HG20;clear gb20 gl20 HG20;obtain ⟨hx20_0,hf20_0⟩:=Kd.R_celln 0 HO_269002.out ((ji17) : Int) p20 q20;replace p20:=eq_true p20;replace q20:=eq_true q20;have HP23:=Kd.R_putg HO_269002.out ((ji17) : Int) 32768
     go_wp2_with (first|((with_reducible refine gate_store (t:=3) (p:=32) rfl ?_);refine store_event (t:=3) (p:=32) (v:=?vo_w24) (w1:=(wr.setCell ⟨go20,((ji17) : Int).toNat,none⟩ (.int .i64 32768))) ?hg ?ho ?hn ?hr ?_;(case ho=>rfl);(case hg=>rfl);(case hn=>rfl);(case hr=>first|(go_simp;done)|(go_simp;rfl));intro w24 hw;have hg : wr.grownBy w24 (some go20):=(by rw [hw];exact HP23.2);have hp_ : Kd.R (Kd.int .i64) 3 w24 w.heap.size (fun _=>True) (.slice (some ⟨go20,0,none⟩) x269002_2.length co20) y269:=(by rw [hw,Ny269.out];exact HP23.1);clear HP23;replace BK264:=zo (blk_grown (zB BK264) hg (Kd.R_ne HO_269002.out BK264.out (by decide)));replace BK268:=zo (blk_grown (zB BK268) hg (Kd.R_ne HO_269002.out BK268.out (by decide)));replace HO_269002:=zo hp_;replace HB:=zo ((by rw [hw];exact below_set (HB.out) GB20.out : Below w.heap.size w w24));clear hg hw hp_))
     go_roundg k2
     case measure=>have:=HJ1.out;have:=HK2.out;omega
     case rel=>exact ⟨(wrap64 (x5_2+1)),(y269),(.slice (some ⟨go20,0,none⟩) x269002_2.length co20),zE,H',⟨by have:=HJ1.out;have:=HK2.out;omega⟩,⟨zR HO_269002⟩,⟨zB BK264⟩,⟨zB BK268⟩,⟨zW HB⟩⟩

def soundservicelaw23_one.f (k : Nat) (a0 : Int) : Option (Int×List Int×Int×Int×List Int×Int×Int×Int×Int):=(soundserviceref07_Identity.f k 1).bind fun bt271=>(some (1,(([a0] : List Int)),bt271.1,bt271.2.1,bt271.2.2.1,65536,65536,0,0))
theorem soundservicelaw23_one.mono : ∀ a0 k,LeO (soundservicelaw23_one.f k a0) (soundservicelaw23_one.f (k+1) a0):=by
 intro a0 k;unfold soundservicelaw23_one.f
 repeat' first
   | (with_reducible exact soundserviceref07_Identity.mono _ _)
   | (with_reducible exact LeO.refl _)
   | (with_reducible exact LeO.none _)
   | (with_reducible refine LeO.ite ?_ ?_)
   | (with_reducible refine LeO.bind ?_ (fun _=>?_))
   | exact soundserviceref07_Identity.mono _ _
   | exact LeO.none _
   | refine LeO.ite ?_ ?_
   | refine LeO.bind ?_ (fun _=>?_)
set_option maxHeartbeats 8000000 in
set_option maxRecDepth 100000 in
theorem soundservicelaw23_one.calls (k : Nat) (a0 : Int) (r1 : Int) (r2 : List Int) (r3 : Int) (r4 : Int) (r5 : List Int) (r6 : Int) (r7 : Int) (r8 : Int) (r9 : Int) (w : World) (h : soundservicelaw23_one.f k a0=some (r1,r2,r3,r4,r5,r6,r7,r8,r9)) :
  Calls Try.prog 29 #[.int .i32 a0] w fun e w'=>∃ v1_ v4_ : Value,e = .returned (.agg #[.int .i64 r1,v1_,.int .i64 r3,.int .i64 r4,v4_,.int .i64 r6,.int .i64 r7,.int .i64 r8,.int .i64 r9])∧Kd.R (Kd.int .i32) 21 w' w.heap.size (fun _=>True) v1_ r2∧Kd.R (Kd.int .i64) 3 w' w.heap.size (fun _=>True) v4_ r5∧Below w.heap.size w w':=by
 have hu54:=Try.underlying54;have hu50:=Try.underlying50;have hu43:=Try.underlying43;have hu52:=Try.underlying52;have HB:=zo (Below.refl w.heap.size w);have H:=h;unfold soundservicelaw23_one.f at H;clear h;replace H:=Option.bind_eq_some_iff.mp H;obtain ⟨⟨t271,t272,t273,t276⟩,A20,H⟩:=H
 try dsimp only at H
 have A2:=zo A20;clear A20;obtain ⟨y278,hy278⟩ : ∃ y_ : List Int,y_=(([a0] : List Int)):=⟨_,rfl⟩;replace H : (some (1,y278,t271,t272,t273,65536,65536,0,0))=some (r1,r2,r3,r4,r5,r6,r7,r8,r9):=by first|(rw [hy278];with_reducible exact H)|(have H2_:=(Option.bind_some _ _).symm.trans H;rw [hy278];with_reducible exact H2_)|(have H2_:=(Option.bind_some _ _).symm.trans H;with_reducible exact H2_)|with_reducible exact H|(rw [hy278];exact H)|exact H
 have Ny278:=zo hy278;clear hy278;simp only [Option.some.injEq,Prod.mk.injEq] at H;obtain ⟨rfl,rfl,rfl,rfl,rfl,rfl,rfl,rfl,rfl⟩:=H
 go_enter Try.func29,Try.ntmps29
 go_wp2_with (first|((with_reducible refine gate_dst (N:=2) rfl ?_);refine box_event ?hg (N:=2) ?hd (cs:=#[.int .i64 0,.slice none 0 0,.int .i64 0,.int .i64 0,.slice none 0 0,.int .i64 0,.int .i64 0,.int .i64 0,.int .i64 0]) (t:=54) ?hr ?_;(case hd=>rfl);(case hg=>rfl);(case hr=>first|(go_simp;done)|(go_simp;rfl));intro gb270 hg w3 hbox hb;have BK270:=zo hbox;have GW270:=zo (zS hg HB);have GE270:=zo (zS hg HB);replace HB:=zo (below_step (zW HB) hb);clear hb hbox hg)|((with_reducible refine gate_callee (f:=26) rfl ?_);refine goesL_ (some 6) rfl rfl Try.func26 zk rfl #[.int .i64 1] rfl zA ?_;(with_reducible refine (soundserviceref07_Identity.calls k 1 t271 t272 t273 t276 _ A2.out).mono ?_);rintro e w4 ⟨v274,rfl,ho0,hb⟩;refine ⟨_,rfl,?_⟩;have HO275:=zo (Kd.R_lower ho0 (below_size (zW HB)));replace BK270:=zo (blk_below (zB BK270) hb);replace HB:=zo (below_step (zW HB) hb);(try clear hb);(try clear ho0))|((with_reducible refine gate_dst (N:=3) rfl ?_);refine box_event ?hg (N:=3) ?hd (cs:=#[.int .i64 0,.int .i64 0,.slice none 0 0]) (t:=50) ?hr ?_;(case hd=>rfl);(case hg=>rfl);(case hr=>first|(go_simp;done)|(go_simp;rfl));intro gb277 hg w5 hbox hb;replace HO275:=zo (Kd.R_below (zR HO275) hb);have BK277:=zo hbox;have GW277:=zo (zS hg HB);have GE277:=zo (zS hg HB);replace HB:=zo (below_step (zW HB) hb);have NB270_277:=zo (zL hg BK270);have NB277_270:=zo (zG hg BK270);replace BK270:=zo (blk_below (zB BK270) hb);clear hb hbox hg;have hnb6:=NB277_270.out;have hnc6:=NB270_277.out;obtain ⟨hcz7_0,hfz7_0,hcz7_1,hfz7_1,hcz7_2,hfz7_2⟩:=zn3 BK277;obtain ⟨Ao8,co8,eo8⟩:=Kd.R_slice HO275.out;subst eo8)|((with_reducible refine gate_dst (N:=10) rfl ?_);refine Kd.R_lit (Kd.int .i32) _ 21 ?hg (N:=10) ?hd (xs:=([a0] : List Int)) (inner:=[.int .i32 a0]) (ok:=fun _=>True) (okp:=fun _=>True) ?hr ?hp (fun _ hk=>hk) trivial (Below.refl _ _) (Nat.le_refl _) (by simp) ?_;(case hd=>rfl);(case hg=>rfl);(case hr=>first|(go_simp;done)|(go_simp;rfl));(case hp=>exact (Reps.one (show Kd.M (Kd.int .i32) _ _ _ a0 [.int .i32 a0] from rfl) (Reps.none _ _)));intro v279 w9 ho10 hb hg_ hnew_;clear hg_ hnew_;(first|rw [← Ny278.out] at ho10|(simp only [Int.reduceToNat] at ho10;rw [← Ny278.out] at ho10));replace HO275:=zo (Kd.R_below (by (with_reducible repeat (first|apply Kd.R_alloc|apply Kd.R_drewN|apply Kd.R_drew));exact (Kd.R_mono (Kd.R_far (p:=⟨gb277,2,none⟩) (Kd.R_far (p:=⟨gb277,1,none⟩) (Kd.R_far (p:=⟨gb277,0,none⟩) (Kd.R_types HO275.out BK277.out (by decide)) (fun _ hk=>hk.2) (.int .i64 t271)) (fun _ hk=>hk.2) (.int .i64 t272)) (fun _ hk=>hk.2) (.slice Ao8 t273.length co8)) (fun _ h_=>h_.1))) hb);have HO280:=zo (Kd.R_lower ho10 (below_size (zW HB)));replace BK270:=zo (blk_below (zB BK270) hb);replace BK277:=zo (blk_below (g:=gb277) (o:=.cells #[.int .i64 t271,.int .i64 t272,.slice Ao8 t273.length co8] 50 (0,0)) (zB BK277) hb);replace HB:=zo (below_step (zW HB) hb);clear hb ho10;obtain ⟨Ao11,co11,eo11⟩:=Kd.R_slice HO280.out;subst eo11;obtain ⟨hcz12_0,hfz12_0,hcz12_1,hfz12_1,hcz12_2,hfz12_2⟩:=zn3 BK277;obtain ⟨hcz13_0,hfz13_0,hcz13_1,hfz13_1,hcz13_2,hfz13_2,hcz13_3,hfz13_3,hcz13_4,hfz13_4,hcz13_5,hfz13_5,hcz13_6,hfz13_6,hcz13_7,hfz13_7,hcz13_8,hfz13_8⟩:=zn9 BK270))
 refine bodyPost_ret (results_cell_row rfl _ _ gb270 54 #[.int .i64 1,.slice Ao11 y278.length co11,.int .i64 t271,.int .i64 t272,.slice Ao8 t273.length co8,.int .i64 65536,.int .i64 65536,.int .i64 0,.int .i64 0] (0,0) _ rfl (zB BK270) Try.underlying54 rfl zk) rfl ?_;exact ⟨_,_,zX,by (with_reducible repeat (first|apply Kd.R_alloc|apply Kd.R_drewN|apply Kd.R_drew));exact Kd.R_mono (Kd.R_far (p:=⟨gb270,8,none⟩) (Kd.R_far (p:=⟨gb270,7,none⟩) (Kd.R_far (p:=⟨gb270,6,none⟩) (Kd.R_far (p:=⟨gb270,5,none⟩) (Kd.R_far (p:=⟨gb270,4,none⟩) (Kd.R_far (p:=⟨gb270,3,none⟩) (Kd.R_far (p:=⟨gb270,2,none⟩) (Kd.R_far (p:=⟨gb270,1,none⟩) (Kd.R_far (p:=⟨gb270,0,none⟩) (Kd.R_types HO280.out BK270.out (by decide)) (fun _ hk=>hk.2) (.int .i64 1)) (fun _ hk=>hk.2) (.slice Ao11 y278.length co11)) (fun _ hk=>hk.2) (.int .i64 t271)) (fun _ hk=>hk.2) (.int .i64 t272)) (fun _ hk=>hk.2) (.slice Ao8 t273.length co8)) (fun _ hk=>hk.2) (.int .i64 65536)) (fun _ hk=>hk.2) (.int .i64 65536)) (fun _ hk=>hk.2) (.int .i64 0)) (fun _ hk=>hk.2) (.int .i64 0)) (fun _ hk=>trivial),by (with_reducible repeat (first|apply Kd.R_alloc|apply Kd.R_drewN|apply Kd.R_drew));exact Kd.R_mono (Kd.R_far (p:=⟨gb270,8,none⟩) (Kd.R_far (p:=⟨gb270,7,none⟩) (Kd.R_far (p:=⟨gb270,6,none⟩) (Kd.R_far (p:=⟨gb270,5,none⟩) (Kd.R_far (p:=⟨gb270,4,none⟩) (Kd.R_far (p:=⟨gb270,3,none⟩) (Kd.R_far (p:=⟨gb270,2,none⟩) (Kd.R_far (p:=⟨gb270,1,none⟩) (Kd.R_far (p:=⟨gb270,0,none⟩) (Kd.R_types HO275.out BK270.out (by decide)) (fun _ hk=>hk.2) (.int .i64 1)) (fun _ hk=>hk.2) (.slice Ao11 y278.length co11)) (fun _ hk=>hk.2) (.int .i64 t271)) (fun _ hk=>hk.2) (.int .i64 t272)) (fun _ hk=>hk.2) (.slice Ao8 t273.length co8)) (fun _ hk=>hk.2) (.int .i64 65536)) (fun _ hk=>hk.2) (.int .i64 65536)) (fun _ hk=>hk.2) (.int .i64 0)) (fun _ hk=>hk.2) (.int .i64 0)) (fun _ hk=>trivial),zW HB⟩

end Go.Proofs.Ytcnmemcclhahnaa.QT
