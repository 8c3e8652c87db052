-- Written by a program of this session, out of the seat's translation; checked by the kernel alone.
import Derived.Test.YtcnmemcclhahnaaQT0
import Derived.Test.YtcnmemcclhahnaaQT6
namespace Go.Proofs.Ytcnmemcclhahnaa.QT
open Go.RowKit Go.Proofs.YtcnmemcclhahnaaW.PrintWords Go.Proofs.YtcnmemcclhahnaaW.PrintLast Go.Proofs.YtcnmemcclhahnaaW.PrintMore
attribute [local go_sem] max2_int min2_int max_two min_two max_three min_three max_four min_four   -- for this text's walks alone
set_option linter.unusedVariables false
set_option linter.unusedSimpArgs false

def mixture_Sum_1.l0 : Nat→Int→List Int→Int→Int→Int→Int→List Int→Option (Int×Int×Int×List Int)
 | 0,_,_,_,_,_,_,_=>none
 | k+1,x7,x18,x19,x20,x184000,x185000,x186000=>if x20<x19 then (if 0≤x20 then (if x20<(x18.length : Int) then (if x20<(x186000.length : Int) then (mixture_Sum_1.l0 k x7 x18 x19 (wrap64 (x20+1)) x184000 x185000 (x186000.set (x20 : Int).toNat (wrap64 ((rd x186000 x20)+(wrap64 (rd x18 x20)))))) else (none)) else (none)) else (none)) else (some (x7,x184000,x185000,x186000))
def mixture_Sum_1.f (k : Nat) (a0_0 : Int) (l0_1 : List Int) (a0_2 : Int) (a0_3 : Int) (l0_4 : List Int) (a0_5 : Int) (a0_6 : Int) (a0_7 : Int) (a0_8 : Int) (s900 : Int) (s910 : Int) (l920 : List Int) : Option (Int×Int×Int×List Int):=(mixture_pass.f k a0_0 l0_1 a0_2 a0_3 l0_4 a0_5 a0_6 a0_7 a0_8 s900 s910).bind fun bt187=>(mixture_Sum_1.l0 k bt187.2.2 bt187.2.1 (bt187.2.1.length : Int) 0 s900 s910 l920)
theorem mixture_Sum_1.mono_l : ∀ k,(∀ y0 y1 y2 y3 y4 y5 y6,LeO (mixture_Sum_1.l0 k y0 y1 y2 y3 y4 y5 y6) (mixture_Sum_1.l0 (k+1) y0 y1 y2 y3 y4 y5 y6))
 | 0=>fun _ _ _ _ _ _ _ r h=>by simp [mixture_Sum_1.l0] at h
 | k+1=>by
  have ih0:=mixture_Sum_1.mono_l k
  ·intro y0 y1 y2 y3 y4 y5 y6;unfold mixture_Sum_1.l0
   repeat' first
   | (with_reducible exact ih0 _ _ _ _ _ _ _)
   | (with_reducible exact mixture_pass.mono _ _ _ _ _ _ _ _ _ _ _ _)
   | (with_reducible exact LeO.refl _)
   | (with_reducible exact LeO.none _)
   | (with_reducible refine LeO.ite ?_ ?_)
   | (with_reducible refine LeO.bind ?_ (fun _=>?_))
   | exact ih0 _ _ _ _ _ _ _
   | exact mixture_pass.mono _ _ _ _ _ _ _ _ _ _ _ _
   | exact LeO.none _
   | refine LeO.ite ?_ ?_
   | refine LeO.bind ?_ (fun _=>?_)
theorem mixture_Sum_1.mono : ∀ a0 a1 a2 a3 a4 a5 a6 a7 a8 a9 a10 a11 k,LeO (mixture_Sum_1.f k a0 a1 a2 a3 a4 a5 a6 a7 a8 a9 a10 a11) (mixture_Sum_1.f (k+1) a0 a1 a2 a3 a4 a5 a6 a7 a8 a9 a10 a11):=by
 intro a0 a1 a2 a3 a4 a5 a6 a7 a8 a9 a10 a11 k;have ih0:=mixture_Sum_1.mono_l k;unfold mixture_Sum_1.f
 repeat' first
   | (with_reducible exact ih0 _ _ _ _ _ _ _)
   | (with_reducible exact mixture_pass.mono _ _ _ _ _ _ _ _ _ _ _ _)
   | (with_reducible exact LeO.refl _)
   | (with_reducible exact LeO.none _)
   | (with_reducible refine LeO.ite ?_ ?_)
   | (with_reducible refine LeO.bind ?_ (fun _=>?_))
   | exact ih0 _ _ _ _ _ _ _
   | exact mixture_pass.mono _ _ _ _ _ _ _ _ _ _ _ _
   | exact LeO.none _
   | refine LeO.ite ?_ ?_
   | refine LeO.bind ?_ (fun _=>?_)
set_option maxHeartbeats 8000000 in
set_option maxRecDepth 100000 in
theorem mixture_Sum_1.calls (k : Nat) (a0_0 : Int) (A0_1 : Option Addr) (c0_1 : Nat) (l0_1 : List Int) (a0_2 : Int) (a0_3 : Int) (A0_4 : Option Addr) (c0_4 : Nat) (l0_4 : List Int) (a0_5 : Int) (a0_6 : Int) (a0_7 : Int) (a0_8 : Int) (gc0 : Nat) (s900 : Int) (gc1 : Nat) (s910 : Int) (gc2 : Nat) (l920 : List Int) (v920_ : Value) (r1 : Int) (r2 : Int) (r3 : Int) (r4 : List Int) (w0 w : World) (hr0_1 : Kd.C (Kd.int .i32) w0 A0_1 l0_1.length l0_1) (hc0_1 : l0_1.length≤c0_1) (hr0_4 : Kd.C (Kd.int .i64) w0 A0_4 l0_4.length l0_4) (hc0_4 : l0_4.length≤c0_4) (hcb_gc0 : w.heap[gc0]?=some (.cells #[.int .i64 s900] 3 (0,0))) (hcg_gc0 : w0.heap.size≤gc0) (hcb_gc1 : w.heap[gc1]?=some (.cells #[.int .i64 s910] 3 (0,0))) (hcg_gc1 : w0.heap.size≤gc1) (hcb_gc2 : w.heap[gc2]?=some (.cells #[v920_] 37 (0,0))) (hcg_gc2 : w0.heap.size≤gc2) (hHO920 : Kd.R (Kd.int .i64) 2 w w0.heap.size (fun _=>True) v920_ l920) (hcn_gc0_gc1 : gc0≠gc1) (hcn_gc0_gc2 : gc0≠gc2) (hcn_gc1_gc2 : gc1≠gc2) (hB : Below w0.heap.size w0 w) (h : mixture_Sum_1.f k a0_0 l0_1 a0_2 a0_3 l0_4 a0_5 a0_6 a0_7 a0_8 s900 s910 l920=some (r1,r2,r3,r4)) :
  Calls Try.prog 31 #[.agg #[.int .i64 a0_0,.slice A0_1 l0_1.length c0_1,.int .i64 a0_2,.int .i64 a0_3,.slice A0_4 l0_4.length c0_4,.int .i64 a0_5,.int .i64 a0_6,.int .i64 a0_7,.int .i64 a0_8],.pointer (some ⟨gc0,0,none⟩),.pointer (some ⟨gc1,0,none⟩),.pointer (some ⟨gc2,0,none⟩)] w fun e w'=>∃ v920_' : Value,e = .returned (.int .i64 r1)∧w'.heap[gc0]?=some (.cells #[.int .i64 r2] 3 (0,0))∧w'.heap[gc1]?=some (.cells #[.int .i64 r3] 3 (0,0))∧Kd.R (Kd.int .i64) 2 w' w0.heap.size (fun _=>True) v920_' r4∧w'.heap[gc2]?=some (.cells #[v920_'] 37 (0,0))∧Below w0.heap.size w0 w':=by
 have hu54:=Try.underlying54;have hu43:=Try.underlying43;have HR0_1:=zo hr0_1;have HC0_1:=zo hc0_1;clear hr0_1 hc0_1;have HR0_4:=zo hr0_4;have HC0_4:=zo hc0_4;clear hr0_4 hc0_4;have HB:=zo hB;clear hB;have BK183:=zo hcb_gc0;have GW183:=zo hcg_gc0;have GE183:=zo hcg_gc0;clear hcb_gc0 hcg_gc0;have BK184:=zo hcb_gc1;have GW184:=zo hcg_gc1;have GE184:=zo hcg_gc1;clear hcb_gc1 hcg_gc1;have BK185:=zo hcb_gc2;have GW185:=zo hcg_gc2;have GE185:=zo hcg_gc2;clear hcb_gc2 hcg_gc2;have HO920:=zo hHO920;clear hHO920;have NB183_184:=zo hcn_gc0_gc1;have NB184_183:=zo (Ne.symm hcn_gc0_gc1);clear hcn_gc0_gc1;have NB183_185:=zo hcn_gc0_gc2;have NB185_183:=zo (Ne.symm hcn_gc0_gc2);clear hcn_gc0_gc2;have NB184_185:=zo hcn_gc1_gc2;have NB185_184:=zo (Ne.symm hcn_gc1_gc2);clear hcn_gc1_gc2;have H:=h;unfold mixture_Sum_1.f at H;clear h;replace H:=Option.bind_eq_some_iff.mp H;obtain ⟨⟨t187,t188,t191⟩,A20,H⟩:=H
 try dsimp only at H
 have A2:=zo A20;clear A20;have H':=zo H;clear H
 go_enter Try.func31,Try.ntmps31
 go_wp2_with (first|((with_reducible refine gate_dst (N:=4) rfl ?_);refine box_event ?hg (N:=4) ?hd (cs:=#[.int .i64 a0_0,.slice A0_1 l0_1.length c0_1,.int .i64 a0_2,.int .i64 a0_3,.slice A0_4 l0_4.length c0_4,.int .i64 a0_5,.int .i64 a0_6,.int .i64 a0_7,.int .i64 a0_8]) (t:=54) ?hr ?_;(case hd=>rfl);(case hg=>rfl);(case hr=>first|(go_simp;done)|(go_simp;rfl));intro gb186 hg w3 hbox hb;replace HO920:=zo (Kd.R_below (zR HO920) hb);have BK186:=zo hbox;have GW186:=zo (zS hg HB);have GE186:=zo (zS hg HB);replace HB:=zo (below_step (zW HB) hb);have NB183_186:=zo (zL hg BK183);have NB186_183:=zo (zG hg BK183);replace BK183:=zo (blk_below (zB BK183) hb);have NB184_186:=zo (zL hg BK184);have NB186_184:=zo (zG hg BK184);replace BK184:=zo (blk_below (zB BK184) hb);have NB185_186:=zo (zL hg BK185);have NB186_185:=zo (zG hg BK185);replace BK185:=zo (blk_below (zB BK185) hb);clear hb hbox hg;have hnb4:=NB186_183.out;have hnc4:=NB183_186.out;have hnb5:=NB186_184.out;have hnc5:=NB184_186.out;have hnb6:=NB186_185.out;have hnc6:=NB185_186.out;obtain ⟨hcz7_0,hfz7_0,hcz7_1,hfz7_1,hcz7_2,hfz7_2,hcz7_3,hfz7_3,hcz7_4,hfz7_4,hcz7_5,hfz7_5,hcz7_6,hfz7_6,hcz7_7,hfz7_7,hcz7_8,hfz7_8⟩:=zn9 BK186;have hnb8:=NB183_184.out;have hnc8:=NB184_183.out;have hnb9:=NB183_185.out;have hnc9:=NB185_183.out;obtain ⟨hcz10_0,hfz10_0⟩:=zn1 BK183;have hnb11:=NB184_185.out;have hnc11:=NB185_184.out;obtain ⟨hcz12_0,hfz12_0⟩:=zn1 BK184)|((with_reducible refine gate_callee (f:=32) rfl ?_);refine goesL_ (some 14) rfl rfl Try.func32 zk rfl #[.agg #[.int .i64 a0_0,.slice A0_1 l0_1.length c0_1,.int .i64 a0_2,.int .i64 a0_3,.slice A0_4 l0_4.length c0_4,.int .i64 a0_5,.int .i64 a0_6,.int .i64 a0_7,.int .i64 a0_8],.int .i64 s900,.int .i64 s910] rfl zA ?_;(with_reducible refine (mixture_pass.calls k a0_0 _ _ l0_1 a0_2 a0_3 _ _ l0_4 a0_5 a0_6 a0_7 a0_8 s900 s910 t187 t188 t191 _ ?side1 ?side2 ?side3 ?side4 A2.out).mono ?_);(case side1=>repeat (first|exact (Kd.C_below HR0_1.out HB.out)|(with_reducible refine Kd.C_alloc ?_ _)|(with_reducible refine Kd.C_drewN ?_ _)|(with_reducible refine Kd.C_drew ?_)));(case side2=>exact HC0_1.out);(case side3=>repeat (first|exact (Kd.C_below HR0_4.out HB.out)|(with_reducible refine Kd.C_alloc ?_ _)|(with_reducible refine Kd.C_drewN ?_ _)|(with_reducible refine Kd.C_drew ?_)));(case side4=>exact HC0_4.out);rintro e w13 ⟨v189,rfl,ho0,hb⟩;refine ⟨_,rfl,?_⟩;replace HO920:=zo (Kd.R_below (zR HO920) hb);have HO190:=zo (Kd.R_lower ho0 (below_size (zW HB)));replace BK183:=zo (blk_below (zB BK183) hb);replace BK184:=zo (blk_below (zB BK184) hb);replace BK185:=zo (blk_below (zB BK185) hb);replace BK186:=zo (blk_below (zB BK186) hb);replace HB:=zo (below_step (zW HB) hb);(try clear hb);(try clear ho0))|((with_reducible refine gate_dst (N:=6) rfl ?_);refine box_event ?hg (N:=6) ?hd (cs:=#[.int .i64 0,.slice none 0 0]) (t:=43) ?hr ?_;(case hd=>rfl);(case hg=>rfl);(case hr=>first|(go_simp;done)|(go_simp;rfl));intro gb192 hg w14 hbox hb;replace HO920:=zo (Kd.R_below (zR HO920) hb);replace HO190:=zo (Kd.R_below (zR HO190) hb);have BK192:=zo hbox;have GW192:=zo (zS hg HB);have GE192:=zo (zS hg HB);replace HB:=zo (below_step (zW HB) hb);have NB183_192:=zo (zL hg BK183);have NB192_183:=zo (zG hg BK183);replace BK183:=zo (blk_below (zB BK183) hb);have NB184_192:=zo (zL hg BK184);have NB192_184:=zo (zG hg BK184);replace BK184:=zo (blk_below (zB BK184) hb);have NB185_192:=zo (zL hg BK185);have NB192_185:=zo (zG hg BK185);replace BK185:=zo (blk_below (zB BK185) hb);have NB186_192:=zo (zL hg BK186);have NB192_186:=zo (zG hg BK186);replace BK186:=zo (blk_below (zB BK186) hb);clear hb hbox hg;have hnb15:=NB192_183.out;have hnc15:=NB183_192.out;have hnb16:=NB192_184.out;have hnc16:=NB184_192.out;have hnb17:=NB192_185.out;have hnc17:=NB185_192.out;have hnb18:=NB192_186.out;have hnc18:=NB186_192.out;obtain ⟨hcz19_0,hfz19_0,hcz19_1,hfz19_1⟩:=zn2 BK192;obtain ⟨Ao20,co20,eo20⟩:=Kd.R_slice HO190.out;subst eo20))
 go_loopg [20] k (fun kq v20 w'=>∃ (x20_1 : Int) (x186000_1 : List Int) (u186000 : Value),v20 = .int .i64 x20_1∧Aside0 (mixture_Sum_1.l0 kq t191 t188 (t188.length : Int) x20_1 s900 s910 x186000_1=some (r1,r2,r3,r4))∧Aside0 (kq≤k)∧Aside0 (Kd.R (Kd.int .i32) 21 w' w0.heap.size (fun _=>True) (.slice Ao20 t188.length co20) t188)∧Aside0 (Kd.R (Kd.int .i64) 2 w' w0.heap.size (fun _=>True) u186000 x186000_1)∧Aside0 (Kd.R (Kd.int .i32) 21 w' w0.heap.size (fun _=>True) (.slice Ao20 t188.length co20) t188)∧Aside0 (w'.heap[gc0]?=some (.cells #[.int .i64 s900] 3 (0,0)))∧Aside0 (w'.heap[gc1]?=some (.cells #[.int .i64 s910] 3 (0,0)))∧Aside0 (w'.heap[gc2]?=some (.cells #[u186000] 37 (0,0)))∧Aside0 (w'.heap[gb186]?=some (.cells #[.int .i64 a0_0,(.slice A0_1 l0_1.length c0_1),.int .i64 a0_2,.int .i64 a0_3,(.slice A0_4 l0_4.length c0_4),.int .i64 a0_5,.int .i64 a0_6,.int .i64 a0_7,.int .i64 a0_8] 54 (0,0)))∧Aside0 (w'.heap[gb192]?=some (.cells #[.int .i64 t187,(.slice Ao20 t188.length co20)] 43 (0,0)))∧Aside0 (Below w0.heap.size w0 w'))
 case atStart=>exact ⟨(0),(l920),(v920_),zE,H',⟨Nat.le_refl _⟩,⟨by (with_reducible repeat (first|apply Kd.R_alloc|apply Kd.R_drewN|apply Kd.R_drew));exact Kd.R_mono (Kd.R_far (p:=⟨gb192,1,none⟩) (Kd.R_far (p:=⟨gb192,0,none⟩) (Kd.R_types HO190.out BK192.out (by decide)) (fun _ hk=>hk.2) (.int .i64 t187)) (fun _ hk=>hk.2) (.slice Ao20 t188.length co20)) (fun _ hk=>trivial)⟩,⟨by (with_reducible repeat (first|apply Kd.R_alloc|apply Kd.R_drewN|apply Kd.R_drew));exact Kd.R_mono (Kd.R_far (p:=⟨gb192,1,none⟩) (Kd.R_far (p:=⟨gb192,0,none⟩) (Kd.R_types HO920.out BK192.out (by decide)) (fun _ hk=>hk.2) (.int .i64 t187)) (fun _ hk=>hk.2) (.slice Ao20 t188.length co20)) (fun _ hk=>trivial)⟩,⟨by (with_reducible repeat (first|apply Kd.R_alloc|apply Kd.R_drewN|apply Kd.R_drew));exact Kd.R_mono (Kd.R_far (p:=⟨gb192,1,none⟩) (Kd.R_far (p:=⟨gb192,0,none⟩) (Kd.R_types HO190.out BK192.out (by decide)) (fun _ hk=>hk.2) (.int .i64 t187)) (fun _ hk=>hk.2) (.slice Ao20 t188.length co20)) (fun _ hk=>trivial)⟩,⟨zB BK183⟩,⟨zB BK184⟩,⟨zB BK185⟩,⟨zB BK186⟩,⟨zB BK192⟩,⟨zW HB⟩⟩
 case round=>
  clear H'
  try clear c1
  try clear c2
  try clear p2
  try clear c3
  try clear c4
  try clear c5
  try clear c6
  try clear c8
  try clear c9
  try clear c11
  try clear c15
  try clear c16
  try clear c17
  try clear c18
  obtain ⟨x20_1,x186000_1,u186000,rfl,HA,HK1,HO_18,HO_186000,HO_193001,BK183,BK184,BK185,BK186,BK192,HB⟩:=hrel
  cases gk with
  | zero=>exact absurd HA.out (by simp [mixture_Sum_1.l0])
  | succ k1=>
   have H:=HA.out;clear HA;simp only [mixture_Sum_1.l0] at H
   by_cases c21 : x20_1<(t188.length : Int)
   rotate_left
   ·rw [if_neg c21] at H;have c21b0:=decide_eq_false c21;clear c21;simp only [Option.some.injEq,Prod.mk.injEq] at H;obtain ⟨rfl,rfl,rfl,rfl⟩:=H
    go_wp2
    go_ret
    first|exact ⟨_,by first|rfl|(simp <;> rfl),(zB BK183),(zB BK184),(zR HO_186000),(zB BK185),zW HB⟩|exact ⟨_,(zB BK183),(zB BK184),(zR HO_186000),(zB BK185),zW HB⟩|exact ⟨by first|rfl|(simp <;> rfl),(zB BK183),(zB BK184),_,(zR HO_186000),(zB BK185),zW HB⟩
   rw [if_pos c21] at H;have c21b0:=decide_eq_true c21;clear c21
   by_cases c22 : 0≤x20_1
   rotate_left
   ·rw [if_neg c22] at H;exact absurd H (by simp)
   rw [if_pos c22] at H;have c22b0:=decide_eq_true c22;clear c22
   by_cases c23 : x20_1<(t188.length : Int)
   rotate_left
   ·rw [if_neg c23] at H;exact absurd H (by simp)
   rw [if_pos c23] at H;have c23b0:=decide_eq_true c23;clear c23
   by_cases c24 : x20_1<(x186000_1.length : Int)
   rotate_left
   ·rw [if_neg c24] at H;exact absurd H (by simp)
   rw [if_pos c24] at H;have c24b0:=decide_eq_true c24;clear c24;obtain ⟨y195,hy195⟩ : ∃ y_ : List Int,y_=(x186000_1.set (x20_1 : Int).toNat (wrap64 ((rd x186000_1 x20_1)+(wrap64 (rd t188 x20_1))))):=⟨_,rfl⟩;replace H : (mixture_Sum_1.l0 k1 t191 t188 (t188.length : Int) (wrap64 (x20_1+1)) s900 s910 y195)=some (r1,r2,r3,r4):=by first|(rw [hy195];with_reducible exact H)|(have H2_:=(Option.bind_some _ _).symm.trans H;rw [hy195];with_reducible exact H2_)|(have H2_:=(Option.bind_some _ _).symm.trans H;with_reducible exact H2_)|with_reducible exact H|(rw [hy195];exact H)|exact H
   have Ny195:=zo hy195;clear hy195;have H':=zo H;clear H;have p193 : 0≤(x20_1 : Int):=zD;have q193 : x20_1<(t188.length : Int):=zD;obtain ⟨ad193,e193,hx193_0⟩:=Kd.at_int (Kd.R_reads' HO_18.out).2.2 x20_1 p193 q193
   cases e193
   replace p193:=eq_true p193;replace q193:=eq_true q193;have hnb26:=NB185_183.out;have hnc26:=NB183_185.out;have hnb27:=NB185_184.out;have hnc27:=NB184_185.out;have hnb28:=NB185_186.out;have hnc28:=NB186_185.out;have hnb29:=NB185_192.out;have hnc29:=NB192_185.out;obtain ⟨hcz30_0,hfz30_0⟩:=zn1 BK185;obtain ⟨Ao31,co31,eo31⟩:=Kd.R_slice HO_186000.out;subst eo31;have p194 : 0≤(x20_1 : Int):=zD;have q194 : x20_1<(x186000_1.length : Int):=zD;obtain ⟨ad194,e194,hx194_0⟩:=Kd.at_int (Kd.R_reads' HO_186000.out).2.2 x20_1 p194 q194
   cases e194
   replace p194:=eq_true p194;replace q194:=eq_true q194;have p25 : 0≤(x20_1 : Int):=zD;have q25 : (x20_1 : Int)<((x186000_1.length : Int) : Int):=zD;obtain ⟨go25,co25,eo25,gb25,gl25,cl25,HG25⟩:=Kd.R_form HO_186000.out (by omega);(first|cases eo25|(injection eo25 with ea_ en_ ec_;(first|subst ea_|(injection ea_ with ea_;subst ea_));subst ec_;clear en_));have GB25:=zo gb25;have GG25:=zo HG25;clear gb25 gl25 HG25;(first|simp only [add_plain] at hx194_0|skip);obtain ⟨hx25_0,hf25_0⟩:=Kd.R_celln 0 HO_186000.out (x20_1 : Int) p25 q25;replace p25:=eq_true p25;replace q25:=eq_true q25;have HP32:=Kd.R_putg HO_186000.out (x20_1 : Int) (wrap64 ((rd x186000_1 x20_1)+(wrap64 (rd t188 x20_1))))
   go_wp2_with (first|((with_reducible refine gate_store (t:=2) (p:=32) rfl ?_);refine store_event (t:=2) (p:=32) (v:=?vo_w33) (w1:=(wr.setCell ⟨go25,(x20_1 : Int).toNat,none⟩ (.int .i64 (wrap64 ((rd x186000_1 x20_1)+(wrap64 (rd t188 x20_1))))))) ?hg ?ho ?hn ?hr ?_;(case ho=>rfl);(case hg=>rfl);(case hn=>rfl);(case hr=>first|(go_simp;done)|(go_simp;rfl));intro w33 hw;have hg : wr.grownBy w33 (some go25):=(by rw [hw];exact HP32.2);have hp_ : Kd.R (Kd.int .i64) 2 w33 w0.heap.size (fun _=>True) (.slice (some ⟨go25,0,none⟩) x186000_1.length co31) y195:=(by rw [hw,Ny195.out];exact HP32.1);clear HP32;replace HO_18:=zo (Kd.R_over' (v:=(.slice (some ⟨go25,0,none⟩) x186000_1.length co31)) (zR HO_18) (Kd.R_typed HO_186000.out) (by decide) hg);replace HO_193001:=zo (Kd.R_over' (v:=(.slice (some ⟨go25,0,none⟩) x186000_1.length co31)) (zR HO_193001) (Kd.R_typed HO_186000.out) (by decide) hg);replace BK183:=zo (blk_grown (zB BK183) hg (Kd.R_ne HO_186000.out BK183.out (by decide)));replace BK184:=zo (blk_grown (zB BK184) hg (Kd.R_ne HO_186000.out BK184.out (by decide)));replace BK185:=zo (blk_grown (zB BK185) hg (Kd.R_ne HO_186000.out BK185.out (by decide)));replace BK186:=zo (blk_grown (zB BK186) hg (Kd.R_ne HO_186000.out BK186.out (by decide)));replace BK192:=zo (blk_grown (zB BK192) hg (Kd.R_ne HO_186000.out BK192.out (by decide)));replace HO_186000:=zo hp_;replace HB:=zo ((by rw [hw];exact below_set (HB.out) GB25.out : Below w0.heap.size w0 w33));clear hg hw hp_))
   go_roundg k1
   case measure=>have:=HK1.out;omega
   case rel=>exact ⟨(wrap64 (x20_1+1)),(y195),(.slice (some ⟨go25,0,none⟩) x186000_1.length co31),zE,H',⟨by have:=HK1.out;omega⟩,⟨zR HO_18⟩,⟨zR HO_186000⟩,⟨zR HO_193001⟩,⟨zB BK183⟩,⟨zB BK184⟩,⟨zB BK185⟩,⟨zB BK186⟩,⟨zB BK192⟩,⟨zW HB⟩⟩

def mixture_fold.l0 : Nat→List (S54)→Int→Int→Int→Int→List Int→Option (Int×Int×Int×List Int)
 | 0,_,_,_,_,_,_=>none
 | k+1,x8,x9,x10,x197000,x198000,x199000=>if x10<x9 then (if 0≤x10 then (if x10<(x8.length : Int) then ((mixture_Sum_1.f k ((rd_T54 x8 x10).f0.f0) ((rd_T54 x8 x10).f0.f1) ((rd_T54 x8 x10).f1.f0) ((rd_T54 x8 x10).f1.f1) ((rd_T54 x8 x10).f1.f2) ((rd_T54 x8 x10).f2.f0) ((rd_T54 x8 x10).f2.f1) ((rd_T54 x8 x10).f2.f2) ((rd_T54 x8 x10).f2.f3) x197000 x198000 x199000).bind fun bt201=>(if bt201.1=0 then (mixture_fold.l0 k x8 x9 (wrap64 (x10+1)) bt201.2.1 bt201.2.2.1 bt201.2.2.2) else (some (bt201.1,bt201.2.1,bt201.2.2.1,bt201.2.2.2)))) else (none)) else (none)) else (some (0,x197000,x198000,x199000))
def mixture_fold.f (k : Nat)  (l1 : List (S54)) (s900 : Int) (s910 : Int) (l920 : List Int) : Option (Int×Int×Int×List Int):=mixture_fold.l0 k l1 (l1.length : Int) 0 s900 s910 l920
theorem mixture_fold.mono_l : ∀ k,(∀ y0 y1 y2 y3 y4 y5,LeO (mixture_fold.l0 k y0 y1 y2 y3 y4 y5) (mixture_fold.l0 (k+1) y0 y1 y2 y3 y4 y5))
 | 0=>fun _ _ _ _ _ _ r h=>by simp [mixture_fold.l0] at h
 | k+1=>by
  have ih0:=mixture_fold.mono_l k
  ·intro y0 y1 y2 y3 y4 y5;unfold mixture_fold.l0
   repeat' first
   | (with_reducible exact ih0 _ _ _ _ _ _)
   | (with_reducible exact mixture_Sum_1.mono _ _ _ _ _ _ _ _ _ _ _ _ _)
   | (with_reducible exact LeO.refl _)
   | (with_reducible exact LeO.none _)
   | (with_reducible refine LeO.ite ?_ ?_)
   | (with_reducible refine LeO.bind ?_ (fun _=>?_))
   | exact ih0 _ _ _ _ _ _
   | exact mixture_Sum_1.mono _ _ _ _ _ _ _ _ _ _ _ _ _
   | exact LeO.none _
   | refine LeO.ite ?_ ?_
   | refine LeO.bind ?_ (fun _=>?_)
theorem mixture_fold.mono : ∀ a0 a1 a2 a3 k,LeO (mixture_fold.f k a0 a1 a2 a3) (mixture_fold.f (k+1) a0 a1 a2 a3):=by
 intro a0 a1 a2 a3 k;have ih0:=mixture_fold.mono_l k;unfold mixture_fold.f
 repeat' first
   | (with_reducible exact ih0 _ _ _ _ _ _)
   | (with_reducible exact mixture_Sum_1.mono _ _ _ _ _ _ _ _ _ _ _ _ _)
   | (with_reducible exact LeO.refl _)
   | (with_reducible exact LeO.none _)
   | (with_reducible refine LeO.ite ?_ ?_)
   | (with_reducible refine LeO.bind ?_ (fun _=>?_))
   | exact ih0 _ _ _ _ _ _
   | exact mixture_Sum_1.mono _ _ _ _ _ _ _ _ _ _ _ _ _
   | exact LeO.none _
   | refine LeO.ite ?_ ?_
   | refine LeO.bind ?_ (fun _=>?_)
set_option maxHeartbeats 8000000 in
set_option maxRecDepth 100000 in
theorem mixture_fold.calls (k : Nat)  (A1 : Option Addr) (c1 : Nat) (l1 : List (S54)) (gc0 : Nat) (s900 : Int) (gc1 : Nat) (s910 : Int) (gc2 : Nat) (l920 : List Int) (v920_ : Value) (r1 : Int) (r2 : Int) (r3 : Int) (r4 : List Int) (w0 w : World) (hr1 : Kd.C k54 w0 A1 l1.length l1) (hc1 : l1.length≤c1) (hcb_gc0 : w.heap[gc0]?=some (.cells #[.int .i64 s900] 3 (0,0))) (hcg_gc0 : w0.heap.size≤gc0) (hcb_gc1 : w.heap[gc1]?=some (.cells #[.int .i64 s910] 3 (0,0))) (hcg_gc1 : w0.heap.size≤gc1) (hcb_gc2 : w.heap[gc2]?=some (.cells #[v920_] 37 (0,0))) (hcg_gc2 : w0.heap.size≤gc2) (hHO920 : Kd.R (Kd.int .i64) 2 w w0.heap.size (fun _=>True) v920_ l920) (hcn_gc0_gc1 : gc0≠gc1) (hcn_gc0_gc2 : gc0≠gc2) (hcn_gc1_gc2 : gc1≠gc2) (hB : Below w0.heap.size w0 w) (h : mixture_fold.f k l1 s900 s910 l920=some (r1,r2,r3,r4)) :
  Calls Try.prog 30 #[.func (.func 31) #[] #[.pointer (some ⟨gc0,0,none⟩),.pointer (some ⟨gc1,0,none⟩),.pointer (some ⟨gc2,0,none⟩)],.slice A1 l1.length c1] w fun e w'=>∃ v920_' : Value,e = .returned (.int .i64 r1)∧w'.heap[gc0]?=some (.cells #[.int .i64 r2] 3 (0,0))∧w'.heap[gc1]?=some (.cells #[.int .i64 r3] 3 (0,0))∧Kd.R (Kd.int .i64) 2 w' w0.heap.size (fun _=>True) v920_' r4∧w'.heap[gc2]?=some (.cells #[v920_'] 37 (0,0))∧Below w0.heap.size w0 w':=by
 have hu54:=Try.underlying54;have HR1:=zo hr1;have HC1:=zo hc1;clear hr1 hc1;have HB:=zo hB;clear hB;have BK196:=zo hcb_gc0;have GW196:=zo hcg_gc0;have GE196:=zo hcg_gc0;clear hcb_gc0 hcg_gc0;have BK197:=zo hcb_gc1;have GW197:=zo hcg_gc1;have GE197:=zo hcg_gc1;clear hcb_gc1 hcg_gc1;have BK198:=zo hcb_gc2;have GW198:=zo hcg_gc2;have GE198:=zo hcg_gc2;clear hcb_gc2 hcg_gc2;have HO920:=zo hHO920;clear hHO920;have NB196_197:=zo hcn_gc0_gc1;have NB197_196:=zo (Ne.symm hcn_gc0_gc1);clear hcn_gc0_gc1;have NB196_198:=zo hcn_gc0_gc2;have NB198_196:=zo (Ne.symm hcn_gc0_gc2);clear hcn_gc0_gc2;have NB197_198:=zo hcn_gc1_gc2;have NB198_197:=zo (Ne.symm hcn_gc1_gc2);clear hcn_gc1_gc2;have H:=h;unfold mixture_fold.f at H;clear h;have H':=zo H;clear H
 go_enter Try.func30,Try.ntmps30
 go_wp2
 go_loopg [10] k (fun kq v10 w'=>∃ (x10_1 : Int) (x197000_1 : Int) (x198000_1 : Int) (x199000_1 : List Int) (u199000 : Value),v10 = .int .i64 x10_1∧Aside0 (mixture_fold.l0 kq l1 (l1.length : Int) x10_1 x197000_1 x198000_1 x199000_1=some (r1,r2,r3,r4))∧Aside0 (kq≤k)∧Aside0 (Kd.R (Kd.int .i64) 2 w' w0.heap.size (fun _=>True) u199000 x199000_1)∧Aside0 (w'.heap[gc0]?=some (.cells #[.int .i64 x197000_1] 3 (0,0)))∧Aside0 (w'.heap[gc1]?=some (.cells #[.int .i64 x198000_1] 3 (0,0)))∧Aside0 (w'.heap[gc2]?=some (.cells #[u199000] 37 (0,0)))∧Aside0 (Below w0.heap.size w0 w'))
 case atStart=>exact ⟨(0),(s900),(s910),(l920),(v920_),zE,H',⟨Nat.le_refl _⟩,⟨zR HO920⟩,⟨zB BK196⟩,⟨zB BK197⟩,⟨zB BK198⟩,⟨zW HB⟩⟩
 case round=>
  clear H'
  try clear c1
  try clear c2
  try clear p2
  obtain ⟨x10_1,x197000_1,x198000_1,x199000_1,u199000,rfl,HA,HK1,HO_199000,BK196,BK197,BK198,HB⟩:=hrel
  cases gk with
  | zero=>exact absurd HA.out (by simp [mixture_fold.l0])
  | succ k1=>
   have H:=HA.out;clear HA;simp only [mixture_fold.l0] at H
   by_cases c3 : x10_1<(l1.length : Int)
   rotate_left
   ·rw [if_neg c3] at H;have c3b0:=decide_eq_false c3;clear c3;simp only [Option.some.injEq,Prod.mk.injEq] at H;obtain ⟨rfl,rfl,rfl,rfl⟩:=H
    go_wp2
    go_ret
    first|exact ⟨_,by first|rfl|(simp <;> rfl),(zB BK196),(zB BK197),(zR HO_199000),(zB BK198),zW HB⟩|exact ⟨_,(zB BK196),(zB BK197),(zR HO_199000),(zB BK198),zW HB⟩|exact ⟨by first|rfl|(simp <;> rfl),(zB BK196),(zB BK197),_,(zR HO_199000),(zB BK198),zW HB⟩
   rw [if_pos c3] at H;have c3b0:=decide_eq_true c3;clear c3
   by_cases c4 : 0≤x10_1
   rotate_left
   ·rw [if_neg c4] at H;exact absurd H (by simp)
   rw [if_pos c4] at H;have c4b0:=decide_eq_true c4;clear c4
   by_cases c5 : x10_1<(l1.length : Int)
   rotate_left
   ·rw [if_neg c5] at H;exact absurd H (by simp)
   rw [if_pos c5] at H;have c5b0:=decide_eq_true c5;clear c5;replace H:=Option.bind_eq_some_iff.mp H;obtain ⟨⟨t201,t202,t203,t204⟩,A60,H⟩:=H
   try dsimp only at H
   have A6:=zo A60;clear A60
   by_cases c7 : t201=0
   rotate_left
   ·rw [if_neg c7] at H;have c7b0 : (t201 == 0)=false:=beq_eq_false_iff_ne.mpr c7;have c7b1 : (t201 != 0)=true:=bne_iff_ne.mpr c7;simp only [Option.some.injEq,Prod.mk.injEq] at H;obtain ⟨rfl,rfl,rfl,rfl⟩:=H;have p199 : 0≤(x10_1 : Int):=zD;have q199 : x10_1<(l1.length : Int):=zD;obtain ⟨ad199,A199_1,c199_1,A199_4,c199_4,e199,hx199_0,hx199_1,hx199_2,hx199_3,hx199_4,hx199_5,hx199_6,hx199_7,hx199_8,hl199_1,hi199_1,hl199_4,hi199_4⟩:=at_T54 HR1.out x10_1 p199 q199
    cases e199
    (try (replace hx199_0:=(HB.out.cell (World.block_lt_of_cell? w0 _ hx199_0)).trans hx199_0));(try (replace hx199_1:=(HB.out.cell (World.block_lt_of_cell? w0 _ hx199_1)).trans hx199_1));(try (replace hx199_2:=(HB.out.cell (World.block_lt_of_cell? w0 _ hx199_2)).trans hx199_2));(try (replace hx199_3:=(HB.out.cell (World.block_lt_of_cell? w0 _ hx199_3)).trans hx199_3));(try (replace hx199_4:=(HB.out.cell (World.block_lt_of_cell? w0 _ hx199_4)).trans hx199_4));(try (replace hx199_5:=(HB.out.cell (World.block_lt_of_cell? w0 _ hx199_5)).trans hx199_5));(try (replace hx199_6:=(HB.out.cell (World.block_lt_of_cell? w0 _ hx199_6)).trans hx199_6));(try (replace hx199_7:=(HB.out.cell (World.block_lt_of_cell? w0 _ hx199_7)).trans hx199_7));(try (replace hx199_8:=(HB.out.cell (World.block_lt_of_cell? w0 _ hx199_8)).trans hx199_8));have HR199_1:=zo hi199_1;have HC199_1:=zo hl199_1;clear hi199_1 hl199_1;have HR199_4:=zo hi199_4;have HC199_4:=zo hl199_4;clear hi199_4 hl199_4;replace p199:=eq_true p199;replace q199:=eq_true q199
    go_wp2_with (first|((with_reducible refine gate_dst (N:=6) rfl ?_);refine box_event ?hg (N:=6) ?hd (cs:=#[.int .i64 0,.slice none 0 0,.int .i64 0,.int .i64 0,.slice none 0 0,.int .i64 0,.int .i64 0,.int .i64 0,.int .i64 0]) (t:=54) ?hr ?_;(case hd=>rfl);(case hg=>rfl);(case hr=>first|(go_simp;done)|(go_simp;rfl));intro gb200 hg w16 hbox hb;replace HO_199000:=zo (Kd.R_below (zR HO_199000) hb);have BK200:=zo hbox;have GW200:=zo (zS hg HB);have GE200:=zo (zS hg HB);replace HB:=zo (below_step (zW HB) hb);have NB196_200:=zo (zL hg BK196);have NB200_196:=zo (zG hg BK196);replace BK196:=zo (blk_below (zB BK196) hb);have NB197_200:=zo (zL hg BK197);have NB200_197:=zo (zG hg BK197);replace BK197:=zo (blk_below (zB BK197) hb);have NB198_200:=zo (zL hg BK198);have NB200_198:=zo (zG hg BK198);replace BK198:=zo (blk_below (zB BK198) hb);clear hb hbox hg;have hnb17:=NB200_196.out;have hnc17:=NB196_200.out;have hnb18:=NB200_197.out;have hnc18:=NB197_200.out;have hnb19:=NB200_198.out;have hnc19:=NB198_200.out;obtain ⟨hcz20_0,hfz20_0,hcz20_1,hfz20_1,hcz20_2,hfz20_2,hcz20_3,hfz20_3,hcz20_4,hfz20_4,hcz20_5,hfz20_5,hcz20_6,hfz20_6,hcz20_7,hfz20_7,hcz20_8,hfz20_8⟩:=zn9 BK200)|((with_reducible refine gate_store (t:=54) (p:=6) rfl ?_);refine store_event (t:=54) (p:=6) (v:=?vo_w21) (w1:=(((((((((w16.setCell ⟨gb200,0,none⟩ (.int .i64 ((rd_T54 l1 x10_1).f0.f0))).setCell ⟨gb200,1,none⟩ (.slice A199_1 ((rd_T54 l1 x10_1).f0.f1).length c199_1)).setCell ⟨gb200,2,none⟩ (.int .i64 ((rd_T54 l1 x10_1).f1.f0))).setCell ⟨gb200,3,none⟩ (.int .i64 ((rd_T54 l1 x10_1).f1.f1))).setCell ⟨gb200,4,none⟩ (.slice A199_4 ((rd_T54 l1 x10_1).f1.f2).length c199_4)).setCell ⟨gb200,5,none⟩ (.int .i64 ((rd_T54 l1 x10_1).f2.f0))).setCell ⟨gb200,6,none⟩ (.int .i64 ((rd_T54 l1 x10_1).f2.f1))).setCell ⟨gb200,7,none⟩ (.int .i64 ((rd_T54 l1 x10_1).f2.f2))).setCell ⟨gb200,8,none⟩ (.int .i64 ((rd_T54 l1 x10_1).f2.f3)))) ?hg ?ho ?hn ?hr ?_;(case ho=>rfl);(case hg=>rfl);(case hn=>rfl);(case hr=>first|(go_simp;done)|(go_simp;rfl));intro w21 hw;have n0_ : Aside0 (Kd.R (Kd.int .i64) 2 w21 w0.heap.size (fun _=>True) u199000 x199000_1):=⟨(by rw [hw];exact (by (with_reducible repeat (first|apply Kd.R_alloc|apply Kd.R_drewN|apply Kd.R_drew));exact Kd.R_mono (Kd.R_far (p:=⟨gb200,8,none⟩) (Kd.R_far (p:=⟨gb200,7,none⟩) (Kd.R_far (p:=⟨gb200,6,none⟩) (Kd.R_far (p:=⟨gb200,5,none⟩) (Kd.R_far (p:=⟨gb200,4,none⟩) (Kd.R_far (p:=⟨gb200,3,none⟩) (Kd.R_far (p:=⟨gb200,2,none⟩) (Kd.R_far (p:=⟨gb200,1,none⟩) (Kd.R_far (p:=⟨gb200,0,none⟩) (Kd.R_types HO_199000.out BK200.out (by decide)) (fun _ hk=>hk.2) (.int .i64 ((rd_T54 l1 x10_1).f0.f0))) (fun _ hk=>hk.2) (.slice A199_1 ((rd_T54 l1 x10_1).f0.f1).length c199_1)) (fun _ hk=>hk.2) (.int .i64 ((rd_T54 l1 x10_1).f1.f0))) (fun _ hk=>hk.2) (.int .i64 ((rd_T54 l1 x10_1).f1.f1))) (fun _ hk=>hk.2) (.slice A199_4 ((rd_T54 l1 x10_1).f1.f2).length c199_4)) (fun _ hk=>hk.2) (.int .i64 ((rd_T54 l1 x10_1).f2.f0))) (fun _ hk=>hk.2) (.int .i64 ((rd_T54 l1 x10_1).f2.f1))) (fun _ hk=>hk.2) (.int .i64 ((rd_T54 l1 x10_1).f2.f2))) (fun _ hk=>hk.2) (.int .i64 ((rd_T54 l1 x10_1).f2.f3))) (fun _ hk=>trivial)))⟩;have n1_ : Aside0 (w21.heap[gc0]?=some (.cells #[.int .i64 x197000_1] 3 (0,0))):=⟨(by rw [hw];exact (zB BK196))⟩;have n2_ : Aside0 (w21.heap[gc1]?=some (.cells #[.int .i64 x198000_1] 3 (0,0))):=⟨(by rw [hw];exact (zB BK197))⟩;have n3_ : Aside0 (w21.heap[gc2]?=some (.cells #[u199000] 37 (0,0))):=⟨(by rw [hw];exact (zB BK198))⟩;have n4_ : Aside0 (w21.heap[gb200]?=some (.cells #[.int .i64 ((rd_T54 l1 x10_1).f0.f0),.slice A199_1 ((rd_T54 l1 x10_1).f0.f1).length c199_1,.int .i64 ((rd_T54 l1 x10_1).f1.f0),.int .i64 ((rd_T54 l1 x10_1).f1.f1),.slice A199_4 ((rd_T54 l1 x10_1).f1.f2).length c199_4,.int .i64 ((rd_T54 l1 x10_1).f2.f0),.int .i64 ((rd_T54 l1 x10_1).f2.f1),.int .i64 ((rd_T54 l1 x10_1).f2.f2),.int .i64 ((rd_T54 l1 x10_1).f2.f3)] 54 (0,0))):=⟨(by rw [hw];exact (zB BK200))⟩;have n5_ : Aside0 (Below w0.heap.size w0 w21):=⟨(by rw [hw];exact (zW HB))⟩;clear hw;clear HO_199000;clear BK196;clear BK197;clear BK198;clear BK200;clear HB;have HO_199000:=n0_;have BK196:=n1_;have BK197:=n2_;have BK198:=n3_;have BK200:=n4_;have HB:=n5_;clear n0_ n1_ n2_ n3_ n4_ n5_;obtain ⟨hcz22_0,hfz22_0,hcz22_1,hfz22_1,hcz22_2,hfz22_2,hcz22_3,hfz22_3,hcz22_4,hfz22_4,hcz22_5,hfz22_5,hcz22_6,hfz22_6,hcz22_7,hfz22_7,hcz22_8,hfz22_8⟩:=zn9 BK200)|(go_at_call 31;refine calls_of_args (args':=#[.agg #[.int .i64 ((rd_T54 l1 x10_1).f0.f0),.slice A199_1 ((rd_T54 l1 x10_1).f0.f1).length c199_1,.int .i64 ((rd_T54 l1 x10_1).f1.f0),.int .i64 ((rd_T54 l1 x10_1).f1.f1),.slice A199_4 ((rd_T54 l1 x10_1).f1.f2).length c199_4,.int .i64 ((rd_T54 l1 x10_1).f2.f0),.int .i64 ((rd_T54 l1 x10_1).f2.f1),.int .i64 ((rd_T54 l1 x10_1).f2.f2),.int .i64 ((rd_T54 l1 x10_1).f2.f3)],.pointer (some ⟨gc0,0,none⟩),.pointer (some ⟨gc1,0,none⟩),.pointer (some ⟨gc2,0,none⟩)]) (by first|rfl) ?_;refine (mixture_Sum_1.calls k1 ((rd_T54 l1 x10_1).f0.f0) _ _ ((rd_T54 l1 x10_1).f0.f1) ((rd_T54 l1 x10_1).f1.f0) ((rd_T54 l1 x10_1).f1.f1) _ _ ((rd_T54 l1 x10_1).f1.f2) ((rd_T54 l1 x10_1).f2.f0) ((rd_T54 l1 x10_1).f2.f1) ((rd_T54 l1 x10_1).f2.f2) ((rd_T54 l1 x10_1).f2.f3) gc0 x197000_1 gc1 x198000_1 gc2 x199000_1 u199000 t201 t202 t203 t204 w0 _ ?side1 ?side2 ?side3 ?side4 ?side5 ?side6 ?side7 ?side8 ?side9 ?side10 ?side11 ?side12 ?side13 ?side14 ?side15 A6.out).mono ?_;(case side1=>exact HR199_1.out);(case side2=>exact HC199_1.out);(case side3=>exact HR199_4.out);(case side4=>exact HC199_4.out);(case side5=>exact zB BK196);(case side6=>exact GW196.out);(case side7=>exact zB BK197);(case side8=>exact GW197.out);(case side9=>exact zB BK198);(case side10=>exact GW198.out);(case side11=>exact (zR HO_199000));(case side12=>exact NB196_197.out);(case side13=>exact NB196_198.out);(case side14=>exact NB197_198.out);(case side15=>exact zW HB);rintro e w23 ⟨v205,rfl,hbk196,hbk197,ho0,hbk198,hb⟩;replace BK196:=zo hbk196;replace BK197:=zo hbk197;replace BK198:=zo hbk198;have HO206:=zo ho0;replace HB:=zo hb;clear HO_199000;clear BK200;(try clear hb);(try clear hbk196);(try clear hbk197);(try clear ho0);(try clear hbk198)))
    go_ret
    first|exact ⟨_,by first|rfl|(simp <;> rfl),(zB BK196),(zB BK197),(zR HO206),(zB BK198),zW HB⟩|exact ⟨_,(zB BK196),(zB BK197),(zR HO206),(zB BK198),zW HB⟩|exact ⟨by first|rfl|(simp <;> rfl),(zB BK196),(zB BK197),_,(zR HO206),(zB BK198),zW HB⟩
   rw [if_pos c7] at H;have c7b0 : (t201 == 0)=true:=beq_iff_eq.mpr c7;have c7b1 : (t201 != 0)=false:=bne_eq_false_iff_eq.mpr c7;clear c7;have H':=zo H;clear H;have p199 : 0≤(x10_1 : Int):=zD;have q199 : x10_1<(l1.length : Int):=zD;obtain ⟨ad199,A199_1,c199_1,A199_4,c199_4,e199,hx199_0,hx199_1,hx199_2,hx199_3,hx199_4,hx199_5,hx199_6,hx199_7,hx199_8,hl199_1,hi199_1,hl199_4,hi199_4⟩:=at_T54 HR1.out x10_1 p199 q199
   cases e199
   (try (replace hx199_0:=(HB.out.cell (World.block_lt_of_cell? w0 _ hx199_0)).trans hx199_0));(try (replace hx199_1:=(HB.out.cell (World.block_lt_of_cell? w0 _ hx199_1)).trans hx199_1));(try (replace hx199_2:=(HB.out.cell (World.block_lt_of_cell? w0 _ hx199_2)).trans hx199_2));(try (replace hx199_3:=(HB.out.cell (World.block_lt_of_cell? w0 _ hx199_3)).trans hx199_3));(try (replace hx199_4:=(HB.out.cell (World.block_lt_of_cell? w0 _ hx199_4)).trans hx199_4));(try (replace hx199_5:=(HB.out.cell (World.block_lt_of_cell? w0 _ hx199_5)).trans hx199_5));(try (replace hx199_6:=(HB.out.cell (World.block_lt_of_cell? w0 _ hx199_6)).trans hx199_6));(try (replace hx199_7:=(HB.out.cell (World.block_lt_of_cell? w0 _ hx199_7)).trans hx199_7));(try (replace hx199_8:=(HB.out.cell (World.block_lt_of_cell? w0 _ hx199_8)).trans hx199_8));have HR199_1:=zo hi199_1;have HC199_1:=zo hl199_1;clear hi199_1 hl199_1;have HR199_4:=zo hi199_4;have HC199_4:=zo hl199_4;clear hi199_4 hl199_4;replace p199:=eq_true p199;replace q199:=eq_true q199
   go_wp2_with (first|((with_reducible refine gate_dst (N:=6) rfl ?_);refine box_event ?hg (N:=6) ?hd (cs:=#[.int .i64 0,.slice none 0 0,.int .i64 0,.int .i64 0,.slice none 0 0,.int .i64 0,.int .i64 0,.int .i64 0,.int .i64 0]) (t:=54) ?hr ?_;(case hd=>rfl);(case hg=>rfl);(case hr=>first|(go_simp;done)|(go_simp;rfl));intro gb200 hg w8 hbox hb;replace HO_199000:=zo (Kd.R_below (zR HO_199000) hb);have BK200:=zo hbox;have GW200:=zo (zS hg HB);have GE200:=zo (zS hg HB);replace HB:=zo (below_step (zW HB) hb);have NB196_200:=zo (zL hg BK196);have NB200_196:=zo (zG hg BK196);replace BK196:=zo (blk_below (zB BK196) hb);have NB197_200:=zo (zL hg BK197);have NB200_197:=zo (zG hg BK197);replace BK197:=zo (blk_below (zB BK197) hb);have NB198_200:=zo (zL hg BK198);have NB200_198:=zo (zG hg BK198);replace BK198:=zo (blk_below (zB BK198) hb);clear hb hbox hg;have hnb9:=NB200_196.out;have hnc9:=NB196_200.out;have hnb10:=NB200_197.out;have hnc10:=NB197_200.out;have hnb11:=NB200_198.out;have hnc11:=NB198_200.out;obtain ⟨hcz12_0,hfz12_0,hcz12_1,hfz12_1,hcz12_2,hfz12_2,hcz12_3,hfz12_3,hcz12_4,hfz12_4,hcz12_5,hfz12_5,hcz12_6,hfz12_6,hcz12_7,hfz12_7,hcz12_8,hfz12_8⟩:=zn9 BK200)|((with_reducible refine gate_store (t:=54) (p:=6) rfl ?_);refine store_event (t:=54) (p:=6) (v:=?vo_w13) (w1:=(((((((((w8.setCell ⟨gb200,0,none⟩ (.int .i64 ((rd_T54 l1 x10_1).f0.f0))).setCell ⟨gb200,1,none⟩ (.slice A199_1 ((rd_T54 l1 x10_1).f0.f1).length c199_1)).setCell ⟨gb200,2,none⟩ (.int .i64 ((rd_T54 l1 x10_1).f1.f0))).setCell ⟨gb200,3,none⟩ (.int .i64 ((rd_T54 l1 x10_1).f1.f1))).setCell ⟨gb200,4,none⟩ (.slice A199_4 ((rd_T54 l1 x10_1).f1.f2).length c199_4)).setCell ⟨gb200,5,none⟩ (.int .i64 ((rd_T54 l1 x10_1).f2.f0))).setCell ⟨gb200,6,none⟩ (.int .i64 ((rd_T54 l1 x10_1).f2.f1))).setCell ⟨gb200,7,none⟩ (.int .i64 ((rd_T54 l1 x10_1).f2.f2))).setCell ⟨gb200,8,none⟩ (.int .i64 ((rd_T54 l1 x10_1).f2.f3)))) ?hg ?ho ?hn ?hr ?_;(case ho=>rfl);(case hg=>rfl);(case hn=>rfl);(case hr=>first|(go_simp;done)|(go_simp;rfl));intro w13 hw;have n0_ : Aside0 (Kd.R (Kd.int .i64) 2 w13 w0.heap.size (fun _=>True) u199000 x199000_1):=⟨(by rw [hw];exact (by (with_reducible repeat (first|apply Kd.R_alloc|apply Kd.R_drewN|apply Kd.R_drew));exact Kd.R_mono (Kd.R_far (p:=⟨gb200,8,none⟩) (Kd.R_far (p:=⟨gb200,7,none⟩) (Kd.R_far (p:=⟨gb200,6,none⟩) (Kd.R_far (p:=⟨gb200,5,none⟩) (Kd.R_far (p:=⟨gb200,4,none⟩) (Kd.R_far (p:=⟨gb200,3,none⟩) (Kd.R_far (p:=⟨gb200,2,none⟩) (Kd.R_far (p:=⟨gb200,1,none⟩) (Kd.R_far (p:=⟨gb200,0,none⟩) (Kd.R_types HO_199000.out BK200.out (by decide)) (fun _ hk=>hk.2) (.int .i64 ((rd_T54 l1 x10_1).f0.f0))) (fun _ hk=>hk.2) (.slice A199_1 ((rd_T54 l1 x10_1).f0.f1).length c199_1)) (fun _ hk=>hk.2) (.int .i64 ((rd_T54 l1 x10_1).f1.f0))) (fun _ hk=>hk.2) (.int .i64 ((rd_T54 l1 x10_1).f1.f1))) (fun _ hk=>hk.2) (.slice A199_4 ((rd_T54 l1 x10_1).f1.f2).length c199_4)) (fun _ hk=>hk.2) (.int .i64 ((rd_T54 l1 x10_1).f2.f0))) (fun _ hk=>hk.2) (.int .i64 ((rd_T54 l1 x10_1).f2.f1))) (fun _ hk=>hk.2) (.int .i64 ((rd_T54 l1 x10_1).f2.f2))) (fun _ hk=>hk.2) (.int .i64 ((rd_T54 l1 x10_1).f2.f3))) (fun _ hk=>trivial)))⟩;have n1_ : Aside0 (w13.heap[gc0]?=some (.cells #[.int .i64 x197000_1] 3 (0,0))):=⟨(by rw [hw];exact (zB BK196))⟩;have n2_ : Aside0 (w13.heap[gc1]?=some (.cells #[.int .i64 x198000_1] 3 (0,0))):=⟨(by rw [hw];exact (zB BK197))⟩;have n3_ : Aside0 (w13.heap[gc2]?=some (.cells #[u199000] 37 (0,0))):=⟨(by rw [hw];exact (zB BK198))⟩;have n4_ : Aside0 (w13.heap[gb200]?=some (.cells #[.int .i64 ((rd_T54 l1 x10_1).f0.f0),.slice A199_1 ((rd_T54 l1 x10_1).f0.f1).length c199_1,.int .i64 ((rd_T54 l1 x10_1).f1.f0),.int .i64 ((rd_T54 l1 x10_1).f1.f1),.slice A199_4 ((rd_T54 l1 x10_1).f1.f2).length c199_4,.int .i64 ((rd_T54 l1 x10_1).f2.f0),.int .i64 ((rd_T54 l1 x10_1).f2.f1),.int .i64 ((rd_T54 l1 x10_1).f2.f2),.int .i64 ((rd_T54 l1 x10_1).f2.f3)] 54 (0,0))):=⟨(by rw [hw];exact (zB BK200))⟩;have n5_ : Aside0 (Below w0.heap.size w0 w13):=⟨(by rw [hw];exact (zW HB))⟩;clear hw;clear HO_199000;clear BK196;clear BK197;clear BK198;clear BK200;clear HB;have HO_199000:=n0_;have BK196:=n1_;have BK197:=n2_;have BK198:=n3_;have BK200:=n4_;have HB:=n5_;clear n0_ n1_ n2_ n3_ n4_ n5_;obtain ⟨hcz14_0,hfz14_0,hcz14_1,hfz14_1,hcz14_2,hfz14_2,hcz14_3,hfz14_3,hcz14_4,hfz14_4,hcz14_5,hfz14_5,hcz14_6,hfz14_6,hcz14_7,hfz14_7,hcz14_8,hfz14_8⟩:=zn9 BK200)|(go_at_call 31;refine calls_of_args (args':=#[.agg #[.int .i64 ((rd_T54 l1 x10_1).f0.f0),.slice A199_1 ((rd_T54 l1 x10_1).f0.f1).length c199_1,.int .i64 ((rd_T54 l1 x10_1).f1.f0),.int .i64 ((rd_T54 l1 x10_1).f1.f1),.slice A199_4 ((rd_T54 l1 x10_1).f1.f2).length c199_4,.int .i64 ((rd_T54 l1 x10_1).f2.f0),.int .i64 ((rd_T54 l1 x10_1).f2.f1),.int .i64 ((rd_T54 l1 x10_1).f2.f2),.int .i64 ((rd_T54 l1 x10_1).f2.f3)],.pointer (some ⟨gc0,0,none⟩),.pointer (some ⟨gc1,0,none⟩),.pointer (some ⟨gc2,0,none⟩)]) (by first|rfl) ?_;refine (mixture_Sum_1.calls k1 ((rd_T54 l1 x10_1).f0.f0) _ _ ((rd_T54 l1 x10_1).f0.f1) ((rd_T54 l1 x10_1).f1.f0) ((rd_T54 l1 x10_1).f1.f1) _ _ ((rd_T54 l1 x10_1).f1.f2) ((rd_T54 l1 x10_1).f2.f0) ((rd_T54 l1 x10_1).f2.f1) ((rd_T54 l1 x10_1).f2.f2) ((rd_T54 l1 x10_1).f2.f3) gc0 x197000_1 gc1 x198000_1 gc2 x199000_1 u199000 t201 t202 t203 t204 w0 _ ?side1 ?side2 ?side3 ?side4 ?side5 ?side6 ?side7 ?side8 ?side9 ?side10 ?side11 ?side12 ?side13 ?side14 ?side15 A6.out).mono ?_;(case side1=>exact HR199_1.out);(case side2=>exact HC199_1.out);(case side3=>exact HR199_4.out);(case side4=>exact HC199_4.out);(case side5=>exact zB BK196);(case side6=>exact GW196.out);(case side7=>exact zB BK197);(case side8=>exact GW197.out);(case side9=>exact zB BK198);(case side10=>exact GW198.out);(case side11=>exact (zR HO_199000));(case side12=>exact NB196_197.out);(case side13=>exact NB196_198.out);(case side14=>exact NB197_198.out);(case side15=>exact zW HB);rintro e w15 ⟨v205,rfl,hbk196,hbk197,ho0,hbk198,hb⟩;replace BK196:=zo hbk196;replace BK197:=zo hbk197;replace BK198:=zo hbk198;have HO206:=zo ho0;replace HB:=zo hb;clear HO_199000;clear BK200;(try clear hb);(try clear hbk196);(try clear hbk197);(try clear ho0);(try clear hbk198)))
   go_roundg k1
   case measure=>have:=HK1.out;omega
   case rel=>exact ⟨(wrap64 (x10_1+1)),(t202),(t203),(t204),(v205),zE,H',⟨by have:=HK1.out;omega⟩,⟨zR HO206⟩,⟨zB BK196⟩,⟨zB BK197⟩,⟨zB BK198⟩,⟨zW HB⟩⟩

def mixture_Sum.j0 : Nat→List (S54)→Bool→Int→Int→Option (List Int×Int)
 | 0,_,_,_,_=>none
 | k+1,x2,x23,x208000,x209000=>if x23=true then (some (([] : List Int),2)) else (if (x2.length : Int)>32 then (some (([] : List Int),3)) else (if 0≤(wrap64 (x208000*x209000)) then (if (wrap64 (x208000*x209000) : Int).toNat≤35184372088832 then ((mixture_fold.f k x2 x208000 x209000 (List.replicate (wrap64 (x208000*x209000) : Int).toNat 0)).bind fun bt213=>(if bt213.1=0 then (some (bt213.2.2.2,0)) else (some (([] : List Int),bt213.1)))) else (none)) else (none)))
def mixture_Sum.f (k : Nat) (a0 : Int) (a1 : Int) (l2 : List (S54)) : Option (List Int×Int):=if a0<1 then (mixture_Sum.j0 k l2 true a0 a1) else (if a0>8 then (mixture_Sum.j0 k l2 true a0 a1) else (if a1<0 then (mixture_Sum.j0 k l2 true a0 a1) else (mixture_Sum.j0 k l2 (decide (a1>65536)) a0 a1)))
theorem mixture_Sum.mono_l : ∀ k,(∀ y0 y1 y2 y3,LeO (mixture_Sum.j0 k y0 y1 y2 y3) (mixture_Sum.j0 (k+1) y0 y1 y2 y3))
 | 0=>fun _ _ _ _ r h=>by simp [mixture_Sum.j0] at h
 | k+1=>by
  have ih0:=mixture_Sum.mono_l k
  ·intro y0 y1 y2 y3;unfold mixture_Sum.j0
   repeat' first
   | (with_reducible exact ih0 _ _ _ _)
   | (with_reducible exact mixture_fold.mono _ _ _ _ _)
   | (with_reducible exact LeO.refl _)
   | (with_reducible exact LeO.none _)
   | (with_reducible refine LeO.ite ?_ ?_)
   | (with_reducible refine LeO.bind ?_ (fun _=>?_))
   | exact ih0 _ _ _ _
   | exact mixture_fold.mono _ _ _ _ _
   | exact LeO.none _
   | refine LeO.ite ?_ ?_
   | refine LeO.bind ?_ (fun _=>?_)
theorem mixture_Sum.mono : ∀ a0 a1 a2 k,LeO (mixture_Sum.f k a0 a1 a2) (mixture_Sum.f (k+1) a0 a1 a2):=by
 intro a0 a1 a2 k;have ih0:=mixture_Sum.mono_l k;unfold mixture_Sum.f
 repeat' first
   | (with_reducible exact ih0 _ _ _ _)
   | (with_reducible exact mixture_fold.mono _ _ _ _ _)
   | (with_reducible exact LeO.refl _)
   | (with_reducible exact LeO.none _)
   | (with_reducible refine LeO.ite ?_ ?_)
   | (with_reducible refine LeO.bind ?_ (fun _=>?_))
   | exact ih0 _ _ _ _
   | exact mixture_fold.mono _ _ _ _ _
   | exact LeO.none _
   | refine LeO.ite ?_ ?_
   | refine LeO.bind ?_ (fun _=>?_)
set_option maxHeartbeats 8000000 in
set_option maxRecDepth 100000 in
theorem mixture_Sum.calls (k : Nat) (a0 : Int) (a1 : Int) (A2 : Option Addr) (c2 : Nat) (l2 : List (S54)) (r1 : List Int) (r2 : Int) (w : World) (hr2 : Kd.C k54 w A2 l2.length l2) (hc2 : l2.length≤c2) (h : mixture_Sum.f k a0 a1 l2=some (r1,r2)) :
  Calls Try.prog 14 #[.int .i64 a0,.int .i64 a1,.slice A2 l2.length c2] w fun e w'=>∃ v0_ : Value,e = .returned (.tuple #[v0_,.int .i64 r2])∧Kd.R (Kd.int .i64) 2 w' w.heap.size (fun _=>True) v0_ r1∧Below w.heap.size w w':=by
 have hmf : ∀ (fn_ : Fn) (first_ cap_ : Array Value) (w_ : World),(Instr.makeFunc fn_ first_ cap_).run Try.prog w_ = .ok (.func fn_ first_ cap_) w_:=fun _ _ _ _=>rfl
 have HR2:=zo hr2;have HC2:=zo hc2;clear hr2 hc2;have HB:=zo (Below.refl w.heap.size w);have H:=h;unfold mixture_Sum.f at H;clear h;have HC4:=zo H;clear H
 go_enter Try.func14,Try.ntmps14
 go_upto_region 1 with (first|((with_reducible refine gate_dst (N:=3) rfl ?_);refine box_event ?hg (N:=3) ?hd (cs:=#[.int .i64 a0]) (t:=3) ?hr ?_;(case hd=>rfl);(case hg=>rfl);(case hr=>first|(go_simp;done)|(go_simp;rfl));intro gb207 hg w5 hbox hb;have BK207:=zo hbox;have GW207:=zo (zS hg HB);have GE207:=zo (zS hg HB);replace HB:=zo (below_step (zW HB) hb);clear hb hbox hg)|((with_reducible refine gate_dst (N:=4) rfl ?_);refine box_event ?hg (N:=4) ?hd (cs:=#[.int .i64 a1]) (t:=3) ?hr ?_;(case hd=>rfl);(case hg=>rfl);(case hr=>first|(go_simp;done)|(go_simp;rfl));intro gb208 hg w6 hbox hb;have BK208:=zo hbox;have GW208:=zo (zS hg HB);have GE208:=zo (zS hg HB);replace HB:=zo (below_step (zW HB) hb);have NB207_208:=zo (zL hg BK207);have NB208_207:=zo (zG hg BK207);replace BK207:=zo (blk_below (zB BK207) hb);clear hb hbox hg))
 (try simp only [Act.put,List.setIfInBounds_toArray,List.set_cons_zero,List.set_cons_succ])
 go_cut [23] (fun v23 wc=>∃ (kq : Nat) (x23_3 : Bool),v23 = .bool x23_3∧Aside0 (mixture_Sum.j0 kq l2 x23_3 a0 a1=some (r1,r2))∧Aside0 (kq≤k)∧Aside0 (wc.heap[gb207]?=some (.cells #[.int .i64 a0] 3 (0,0)))∧Aside0 (wc.heap[gb208]?=some (.cells #[.int .i64 a1] 3 (0,0)))∧Aside0 (Below w.heap.size w wc))
 case first=>
  have H:=HC4.out;clear HC4
  by_cases c7 : a0<1
  ·rw [if_pos c7] at H;have c7b0:=decide_eq_true c7;clear c7;(first|rw [c7b0]|(simp only [i64_w,i32_w];rw [c7b0])|skip);have H':=zo H;clear H;have hnb8:=NB207_208.out;have hnc8:=NB208_207.out;obtain ⟨hcz9_0,hfz9_0⟩:=zn1 BK207
   go_wp2
   go_meet
   case rel=>exact ⟨_,(true),zE,H',⟨zY⟩,⟨zB BK207⟩,⟨zB BK208⟩,⟨zW HB⟩⟩
  rw [if_neg c7] at H;have c7b0:=decide_eq_false c7;clear c7;(first|rw [c7b0]|(simp only [i64_w,i32_w];rw [c7b0])|skip)
  by_cases c10 : a0>8
  ·rw [if_pos c10] at H;have c10b0:=decide_eq_true c10;clear c10;have H':=zo H;clear H;have hnb11:=NB207_208.out;have hnc11:=NB208_207.out;obtain ⟨hcz12_0,hfz12_0⟩:=zn1 BK207
   go_wp2
   go_meet
   case rel=>exact ⟨_,(true),zE,H',⟨zY⟩,⟨zB BK207⟩,⟨zB BK208⟩,⟨zW HB⟩⟩
  rw [if_neg c10] at H;have c10b0:=decide_eq_false c10;clear c10
  by_cases c13 : a1<0
  ·rw [if_pos c13] at H;have c13b0:=decide_eq_true c13;clear c13;have H':=zo H;clear H;have hnb14:=NB207_208.out;have hnc14:=NB208_207.out;obtain ⟨hcz15_0,hfz15_0⟩:=zn1 BK207;obtain ⟨hcz16_0,hfz16_0⟩:=zn1 BK208
   go_wp2
   go_meet
   case rel=>exact ⟨_,(true),zE,H',⟨zY⟩,⟨zB BK207⟩,⟨zB BK208⟩,⟨zW HB⟩⟩
  rw [if_neg c13] at H;have c13b0:=decide_eq_false c13;clear c13;have H':=zo H;clear H;have hnb17:=NB207_208.out;have hnc17:=NB208_207.out;obtain ⟨hcz18_0,hfz18_0⟩:=zn1 BK207;obtain ⟨hcz19_0,hfz19_0⟩:=zn1 BK208
  go_wp2
  go_meet
  case rel=>exact ⟨_,(decide (a1>65536)),zE,H',⟨zY⟩,⟨zB BK207⟩,⟨zB BK208⟩,⟨zW HB⟩⟩
 case rest=>
  clear HC4
  try clear c1
  try clear c2
  try clear p2
  try clear c7
  try clear c7b0
  try clear c8
  try clear c10
  try clear c10b0
  try clear c11
  try clear c13
  try clear c13b0
  try clear c14
  try clear c17
  obtain ⟨kq,x23_3,rfl,HA,HJ3,BK207,BK208,HB⟩:=hcut
  cases kq with
  | zero=>exact absurd HA.out (by simp [mixture_Sum.j0])
  | succ kj3=>
   have H:=HA.out;clear HA;simp only [mixture_Sum.j0] at H
   by_cases c20 : x23_3=true
   ·subst c20;have H1:=H;rw [if_pos rfl] at H1;clear H;have H:=H1;clear H1;simp only [Option.some.injEq,Prod.mk.injEq] at H;obtain ⟨rfl,rfl⟩:=H
    go_wp2
    go_ret2
    exact ⟨_,zX,by first|exact Kd.R_nil _ _ _ _ _|exact Kd.N_nil _ _ _ _ _|exact Kd.V_nil _ _ _ _ _|exact Kd.Q_nil _ _ _ _ _|exact Kd.S_nil _ _ _ _ _,zW HB⟩
   replace c20:=Bool.eq_false_iff.mpr c20;subst c20;have H1:=H;rw [if_neg (show ¬ (false=true) by decide)] at H1;clear H;have H:=H1;clear H1
   by_cases c21 : (l2.length : Int)>32
   ·rw [if_pos c21] at H;have c21b0:=decide_eq_true c21;have c21b1 : decide (32<l2.length)=true:=decide_eq_true (by omega);clear c21;simp only [Option.some.injEq,Prod.mk.injEq] at H;obtain ⟨rfl,rfl⟩:=H
    go_wp2
    go_ret2
    exact ⟨_,zX,by first|exact Kd.R_nil _ _ _ _ _|exact Kd.N_nil _ _ _ _ _|exact Kd.V_nil _ _ _ _ _|exact Kd.Q_nil _ _ _ _ _|exact Kd.S_nil _ _ _ _ _,zW HB⟩
   rw [if_neg c21] at H;have c21b0:=decide_eq_false c21;have c21b1 : decide (32<l2.length)=false:=decide_eq_false (by omega);clear c21;obtain ⟨ji22,hji22⟩ : ∃ j_ : Int,(wrap64 (a0*a1))=j_:=⟨_,rfl⟩;(first|rw [hji22] at H|simp only [hji22] at H);have hji22w : (IntKind.i64.wrap (a0*a1))=ji22:=(i64_w _).trans hji22
   by_cases c23 : 0≤(ji22)
   rotate_left
   ·rw [if_neg c23] at H;exact absurd H (by simp)
   rw [if_pos c23] at H;have c23b0:=eq_true c23;have c23b1:=decide_eq_true c23;clear c23
   by_cases c24 : (ji22 : Int).toNat≤35184372088832
   rotate_left
   ·rw [if_neg c24] at H;exact absurd H (by simp)
   rw [if_pos c24] at H;have c24b0:=eq_true c24;have c24b1:=decide_eq_true c24;clear c24;obtain ⟨y209,hy209⟩ : ∃ y_ : List Int,y_=(List.replicate (ji22 : Int).toNat 0):=⟨_,rfl⟩;replace H : ((mixture_fold.f kj3 l2 a0 a1 y209).bind fun bt213=>(if bt213.1=0 then (some (bt213.2.2.2,0)) else (some (([] : List Int),bt213.1))))=some (r1,r2):=by first|(rw [hy209];with_reducible exact H)|(have H2_:=(Option.bind_some _ _).symm.trans H;rw [hy209];with_reducible exact H2_)|(have H2_:=(Option.bind_some _ _).symm.trans H;with_reducible exact H2_)|with_reducible exact H|(rw [hy209];exact H)|exact H
   have Ny209:=zo hy209;clear hy209;replace H:=Option.bind_eq_some_iff.mp H;obtain ⟨⟨t213,t214,t215,t216⟩,A250,H⟩:=H
   try dsimp only at H
   have A25:=zo A250;clear A250
   by_cases c26 : t213=0
   ·rw [if_pos c26] at H;have c26b0 : (t213 == 0)=true:=beq_iff_eq.mpr c26;have c26b1 : (t213 != 0)=false:=bne_eq_false_iff_eq.mpr c26;clear c26;simp only [Option.some.injEq,Prod.mk.injEq] at H;obtain ⟨rfl,rfl⟩:=H;have hnb27:=NB207_208.out;have hnc27:=NB208_207.out;obtain ⟨hcz28_0,hfz28_0⟩:=zn1 BK207;obtain ⟨hcz29_0,hfz29_0⟩:=zn1 BK208
    go_wp2_with (first|((with_reducible refine gate_dst (N:=30) rfl ?_);refine Kd.R_make (Kd.int .i64) _ 2 rfl (N:=30) rfl 37 _ _ rfl ji22 rfl rfl Try.underlying37 (.int .i64 0) 8 info2 rfl (by decide) (by omega) 0 (ok:=fun _=>True) (okp:=fun _=>True) rfl (fun _ hk=>hk) trivial (zD) (Nat.le_trans (Nat.mul_le_mul_right _ (zD : ji22.toNat≤35184372088832)) (by omega)) (Below.refl _ _) (Nat.le_refl _) ?_;intro v210 w30 ho31 hb hg_ hnew_;clear hg_ hnew_;(first|rw [← Ny209.out] at ho31|(simp only [Int.reduceToNat] at ho31;rw [← Ny209.out] at ho31));have HO211:=zo (Kd.R_lower ho31 (below_size (zW HB)));replace BK207:=zo (blk_below (zB BK207) hb);replace BK208:=zo (blk_below (zB BK208) hb);replace HB:=zo (below_step (zW HB) hb);clear hb ho31)|((with_reducible refine gate_dst (N:=8) rfl ?_);refine box_event ?hg (N:=8) ?hd (cs:=#[.slice none 0 0]) (t:=37) ?hr ?_;(case hd=>rfl);(case hg=>rfl);(case hr=>first|(go_simp;done)|(go_simp;rfl));intro gb212 hg w32 hbox hb;replace HO211:=zo (Kd.R_below (zR HO211) hb);have BK212:=zo hbox;have GW212:=zo (zS hg HB);have GE212:=zo (zS hg HB);replace HB:=zo (below_step (zW HB) hb);have NB207_212:=zo (zL hg BK207);have NB212_207:=zo (zG hg BK207);replace BK207:=zo (blk_below (zB BK207) hb);have NB208_212:=zo (zL hg BK208);have NB212_208:=zo (zG hg BK208);replace BK208:=zo (blk_below (zB BK208) hb);clear hb hbox hg;obtain ⟨Ao33,co33,eo33⟩:=Kd.R_slice HO211.out;subst eo33;have hnb34:=NB212_207.out;have hnc34:=NB207_212.out;have hnb35:=NB212_208.out;have hnc35:=NB208_212.out;obtain ⟨hcz36_0,hfz36_0⟩:=zn1 BK212)|((with_reducible refine gate_store (t:=37) (p:=8) rfl ?_);refine store_event (t:=37) (p:=8) (v:=?vo_w37) (w1:=(w32.setCell ⟨gb212,0,none⟩ (.slice Ao33 y209.length co33))) ?hg ?ho ?hn ?hr ?_;(case ho=>rfl);(case hg=>rfl);(case hn=>rfl);(case hr=>first|(go_simp;done)|(go_simp;rfl));intro w37 hw;have n0_ : Aside0 (Kd.R (Kd.int .i64) 2 w37 w.heap.size (fun _=>True) (.slice Ao33 y209.length co33) y209):=⟨(by rw [hw];exact (by (with_reducible repeat (first|apply Kd.R_alloc|apply Kd.R_drewN|apply Kd.R_drew));exact Kd.R_mono (Kd.R_far (p:=⟨gb212,0,none⟩) (Kd.R_types HO211.out BK212.out (by decide)) (fun _ hk=>hk.2) (.slice Ao33 y209.length co33)) (fun _ hk=>trivial)))⟩;have n1_ : Aside0 (w37.heap[gb207]?=some (.cells #[.int .i64 a0] 3 (0,0))):=⟨(by rw [hw];exact (zB BK207))⟩;have n2_ : Aside0 (w37.heap[gb208]?=some (.cells #[.int .i64 a1] 3 (0,0))):=⟨(by rw [hw];exact (zB BK208))⟩;have n3_ : Aside0 (w37.heap[gb212]?=some (.cells #[.slice Ao33 y209.length co33] 37 (0,0))):=⟨(by rw [hw];exact (zB BK212))⟩;have n4_ : Aside0 (Below w.heap.size w w37):=⟨(by rw [hw];exact (zW HB))⟩;clear hw;clear HO211;clear BK207;clear BK208;clear BK212;clear HB;have HO211:=n0_;have BK207:=n1_;have BK208:=n2_;have BK212:=n3_;have HB:=n4_;clear n0_ n1_ n2_ n3_ n4_)|(go_at_call 30;refine calls_of_args (args':=#[.func (.func 31) #[] #[.pointer (some ⟨gb207,0,none⟩),.pointer (some ⟨gb208,0,none⟩),.pointer (some ⟨gb212,0,none⟩)],.slice A2 l2.length c2]) (by first|rfl) ?_;refine (mixture_fold.calls kj3 _ _ l2 gb207 a0 gb208 a1 gb212 y209 (.slice Ao33 y209.length co33) t213 t214 t215 t216 w _ ?side1 ?side2 ?side3 ?side4 ?side5 ?side6 ?side7 ?side8 ?side9 ?side10 ?side11 ?side12 ?side13 A25.out).mono ?_;(case side1=>exact HR2.out);(case side2=>exact HC2.out);(case side3=>exact zB BK207);(case side4=>exact GW207.out);(case side5=>exact zB BK208);(case side6=>exact GW208.out);(case side7=>exact zB BK212);(case side8=>exact GW212.out);(case side9=>exact (zR HO211));(case side10=>exact NB207_208.out);(case side11=>exact NB207_212.out);(case side12=>exact NB208_212.out);(case side13=>exact zW HB);rintro e w38 ⟨v217,rfl,hbk207,hbk208,ho0,hbk212,hb⟩;replace BK207:=zo hbk207;replace BK208:=zo hbk208;replace BK212:=zo hbk212;have HO218:=zo ho0;replace HB:=zo hb;clear HO211;(try clear hb);(try clear hbk207);(try clear hbk208);(try clear ho0);(try clear hbk212);obtain ⟨hcz39_0,hfz39_0⟩:=zn1 BK212))
    go_ret2
    exact ⟨_,by first|rfl|(simp [errW_none,errW_some] <;> rfl)|(simp only [← hji22];first|rfl|(simp [errW_none,errW_some] <;> rfl))|(simp [*,errW_none,errW_some] <;> rfl),zR HO218,zW HB⟩
   rw [if_neg c26] at H;have c26b0 : (t213 == 0)=false:=beq_eq_false_iff_ne.mpr c26;have c26b1 : (t213 != 0)=true:=bne_iff_ne.mpr c26;simp only [Option.some.injEq,Prod.mk.injEq] at H;obtain ⟨rfl,rfl⟩:=H;have hnb40:=NB207_208.out;have hnc40:=NB208_207.out;obtain ⟨hcz41_0,hfz41_0⟩:=zn1 BK207;obtain ⟨hcz42_0,hfz42_0⟩:=zn1 BK208
   go_wp2_with (first|((with_reducible refine gate_dst (N:=30) rfl ?_);refine Kd.R_make (Kd.int .i64) _ 2 rfl (N:=30) rfl 37 _ _ rfl ji22 rfl rfl Try.underlying37 (.int .i64 0) 8 info2 rfl (by decide) (by omega) 0 (ok:=fun _=>True) (okp:=fun _=>True) rfl (fun _ hk=>hk) trivial (zD) (Nat.le_trans (Nat.mul_le_mul_right _ (zD : ji22.toNat≤35184372088832)) (by omega)) (Below.refl _ _) (Nat.le_refl _) ?_;intro v210 w43 ho44 hb hg_ hnew_;clear hg_ hnew_;(first|rw [← Ny209.out] at ho44|(simp only [Int.reduceToNat] at ho44;rw [← Ny209.out] at ho44));have HO211:=zo (Kd.R_lower ho44 (below_size (zW HB)));replace BK207:=zo (blk_below (zB BK207) hb);replace BK208:=zo (blk_below (zB BK208) hb);replace HB:=zo (below_step (zW HB) hb);clear hb ho44)|((with_reducible refine gate_dst (N:=8) rfl ?_);refine box_event ?hg (N:=8) ?hd (cs:=#[.slice none 0 0]) (t:=37) ?hr ?_;(case hd=>rfl);(case hg=>rfl);(case hr=>first|(go_simp;done)|(go_simp;rfl));intro gb212 hg w45 hbox hb;replace HO211:=zo (Kd.R_below (zR HO211) hb);have BK212:=zo hbox;have GW212:=zo (zS hg HB);have GE212:=zo (zS hg HB);replace HB:=zo (below_step (zW HB) hb);have NB207_212:=zo (zL hg BK207);have NB212_207:=zo (zG hg BK207);replace BK207:=zo (blk_below (zB BK207) hb);have NB208_212:=zo (zL hg BK208);have NB212_208:=zo (zG hg BK208);replace BK208:=zo (blk_below (zB BK208) hb);clear hb hbox hg;obtain ⟨Ao46,co46,eo46⟩:=Kd.R_slice HO211.out;subst eo46;have hnb47:=NB212_207.out;have hnc47:=NB207_212.out;have hnb48:=NB212_208.out;have hnc48:=NB208_212.out;obtain ⟨hcz49_0,hfz49_0⟩:=zn1 BK212)|((with_reducible refine gate_store (t:=37) (p:=8) rfl ?_);refine store_event (t:=37) (p:=8) (v:=?vo_w50) (w1:=(w45.setCell ⟨gb212,0,none⟩ (.slice Ao46 y209.length co46))) ?hg ?ho ?hn ?hr ?_;(case ho=>rfl);(case hg=>rfl);(case hn=>rfl);(case hr=>first|(go_simp;done)|(go_simp;rfl));intro w50 hw;have n0_ : Aside0 (Kd.R (Kd.int .i64) 2 w50 w.heap.size (fun _=>True) (.slice Ao46 y209.length co46) y209):=⟨(by rw [hw];exact (by (with_reducible repeat (first|apply Kd.R_alloc|apply Kd.R_drewN|apply Kd.R_drew));exact Kd.R_mono (Kd.R_far (p:=⟨gb212,0,none⟩) (Kd.R_types HO211.out BK212.out (by decide)) (fun _ hk=>hk.2) (.slice Ao46 y209.length co46)) (fun _ hk=>trivial)))⟩;have n1_ : Aside0 (w50.heap[gb207]?=some (.cells #[.int .i64 a0] 3 (0,0))):=⟨(by rw [hw];exact (zB BK207))⟩;have n2_ : Aside0 (w50.heap[gb208]?=some (.cells #[.int .i64 a1] 3 (0,0))):=⟨(by rw [hw];exact (zB BK208))⟩;have n3_ : Aside0 (w50.heap[gb212]?=some (.cells #[.slice Ao46 y209.length co46] 37 (0,0))):=⟨(by rw [hw];exact (zB BK212))⟩;have n4_ : Aside0 (Below w.heap.size w w50):=⟨(by rw [hw];exact (zW HB))⟩;clear hw;clear HO211;clear BK207;clear BK208;clear BK212;clear HB;have HO211:=n0_;have BK207:=n1_;have BK208:=n2_;have BK212:=n3_;have HB:=n4_;clear n0_ n1_ n2_ n3_ n4_)|(go_at_call 30;refine calls_of_args (args':=#[.func (.func 31) #[] #[.pointer (some ⟨gb207,0,none⟩),.pointer (some ⟨gb208,0,none⟩),.pointer (some ⟨gb212,0,none⟩)],.slice A2 l2.length c2]) (by first|rfl) ?_;refine (mixture_fold.calls kj3 _ _ l2 gb207 a0 gb208 a1 gb212 y209 (.slice Ao46 y209.length co46) t213 t214 t215 t216 w _ ?side1 ?side2 ?side3 ?side4 ?side5 ?side6 ?side7 ?side8 ?side9 ?side10 ?side11 ?side12 ?side13 A25.out).mono ?_;(case side1=>exact HR2.out);(case side2=>exact HC2.out);(case side3=>exact zB BK207);(case side4=>exact GW207.out);(case side5=>exact zB BK208);(case side6=>exact GW208.out);(case side7=>exact zB BK212);(case side8=>exact GW212.out);(case side9=>exact (zR HO211));(case side10=>exact NB207_208.out);(case side11=>exact NB207_212.out);(case side12=>exact NB208_212.out);(case side13=>exact zW HB);rintro e w51 ⟨v217,rfl,hbk207,hbk208,ho0,hbk212,hb⟩;replace BK207:=zo hbk207;replace BK208:=zo hbk208;replace BK212:=zo hbk212;have HO218:=zo ho0;replace HB:=zo hb;clear HO211;(try clear hb);(try clear hbk207);(try clear hbk208);(try clear ho0);(try clear hbk212)))
   go_ret2
   exact ⟨_,by first|rfl|(simp [errW_none,errW_some] <;> rfl)|(simp only [← hji22];first|rfl|(simp [errW_none,errW_some] <;> rfl))|(simp [*,errW_none,errW_some] <;> rfl),by first|exact Kd.R_nil _ _ _ _ _|exact Kd.N_nil _ _ _ _ _|exact Kd.V_nil _ _ _ _ _|exact Kd.Q_nil _ _ _ _ _|exact Kd.S_nil _ _ _ _ _,zW HB⟩

def limiter_Valid.f (a0_0 : Int) (a0_1 : Int) (a0_2 : Int) : Option (Bool):=if a0_0 ≥ 1 then (if a0_0≤8388607 then (if a0_1 ≥ 1 then (if a0_1≤65536 then (if a0_2 ≥ 0 then (some (decide (a0_2≤65536))) else (some false)) else (some false)) else (some false)) else (some false)) else (some false)
set_option maxHeartbeats 8000000 in
set_option maxRecDepth 100000 in
theorem limiter_Valid.calls (a0_0 : Int) (a0_1 : Int) (a0_2 : Int) (r : Bool) (w : World) (h : limiter_Valid.f a0_0 a0_1 a0_2=some r) :
  Calls Try.prog 56 #[.agg #[.int .i64 a0_0,.int .i64 a0_1,.int .i64 a0_2]] w fun e w'=>e = .returned (.bool r)∧Below w.heap.size w w':=by
 have hu24:=Try.underlying24;have HB:=zo (Below.refl w.heap.size w);have H:=h;unfold limiter_Valid.f at H;clear h
 by_cases c2 : a0_0 ≥ 1
 rotate_left
 ·rw [if_neg c2] at H;have c2b0:=decide_eq_false c2;clear c2;obtain rfl:=Option.some.inj H
  go_enter Try.func56,Try.ntmps56
  go_wp2_with (first|((with_reducible refine gate_dst (N:=1) rfl ?_);refine box_event ?hg (N:=1) ?hd (cs:=#[.int .i64 a0_0,.int .i64 a0_1,.int .i64 a0_2]) (t:=24) ?hr ?_;(case hd=>rfl);(case hg=>rfl);(case hr=>first|(go_simp;done)|(go_simp;rfl));intro gb219 hg w17 hbox hb;have BK219:=zo hbox;have GW219:=zo (zS hg HB);have GE219:=zo (zS hg HB);replace HB:=zo (below_step (zW HB) hb);clear hb hbox hg;obtain ⟨hcz18_0,hfz18_0,hcz18_1,hfz18_1,hcz18_2,hfz18_2⟩:=zn3 BK219))
  go_ret
  exact ⟨zX,zW HB⟩
 rw [if_pos c2] at H;have c2b0:=decide_eq_true c2;clear c2
 by_cases c3 : a0_0≤8388607
 rotate_left
 ·rw [if_neg c3] at H;have c3b0:=decide_eq_false c3;clear c3;obtain rfl:=Option.some.inj H
  go_enter Try.func56,Try.ntmps56
  go_wp2_with (first|((with_reducible refine gate_dst (N:=1) rfl ?_);refine box_event ?hg (N:=1) ?hd (cs:=#[.int .i64 a0_0,.int .i64 a0_1,.int .i64 a0_2]) (t:=24) ?hr ?_;(case hd=>rfl);(case hg=>rfl);(case hr=>first|(go_simp;done)|(go_simp;rfl));intro gb219 hg w15 hbox hb;have BK219:=zo hbox;have GW219:=zo (zS hg HB);have GE219:=zo (zS hg HB);replace HB:=zo (below_step (zW HB) hb);clear hb hbox hg;obtain ⟨hcz16_0,hfz16_0,hcz16_1,hfz16_1,hcz16_2,hfz16_2⟩:=zn3 BK219))
  go_ret
  exact ⟨zX,zW HB⟩
 rw [if_pos c3] at H;have c3b0:=decide_eq_true c3;clear c3
 by_cases c4 : a0_1 ≥ 1
 rotate_left
 ·rw [if_neg c4] at H;have c4b0:=decide_eq_false c4;clear c4;obtain rfl:=Option.some.inj H
  go_enter Try.func56,Try.ntmps56
  go_wp2_with (first|((with_reducible refine gate_dst (N:=1) rfl ?_);refine box_event ?hg (N:=1) ?hd (cs:=#[.int .i64 a0_0,.int .i64 a0_1,.int .i64 a0_2]) (t:=24) ?hr ?_;(case hd=>rfl);(case hg=>rfl);(case hr=>first|(go_simp;done)|(go_simp;rfl));intro gb219 hg w13 hbox hb;have BK219:=zo hbox;have GW219:=zo (zS hg HB);have GE219:=zo (zS hg HB);replace HB:=zo (below_step (zW HB) hb);clear hb hbox hg;obtain ⟨hcz14_0,hfz14_0,hcz14_1,hfz14_1,hcz14_2,hfz14_2⟩:=zn3 BK219))
  go_ret
  exact ⟨zX,zW HB⟩
 rw [if_pos c4] at H;have c4b0:=decide_eq_true c4;clear c4
 by_cases c5 : a0_1≤65536
 rotate_left
 ·rw [if_neg c5] at H;have c5b0:=decide_eq_false c5;clear c5;obtain rfl:=Option.some.inj H
  go_enter Try.func56,Try.ntmps56
  go_wp2_with (first|((with_reducible refine gate_dst (N:=1) rfl ?_);refine box_event ?hg (N:=1) ?hd (cs:=#[.int .i64 a0_0,.int .i64 a0_1,.int .i64 a0_2]) (t:=24) ?hr ?_;(case hd=>rfl);(case hg=>rfl);(case hr=>first|(go_simp;done)|(go_simp;rfl));intro gb219 hg w11 hbox hb;have BK219:=zo hbox;have GW219:=zo (zS hg HB);have GE219:=zo (zS hg HB);replace HB:=zo (below_step (zW HB) hb);clear hb hbox hg;obtain ⟨hcz12_0,hfz12_0,hcz12_1,hfz12_1,hcz12_2,hfz12_2⟩:=zn3 BK219))
  go_ret
  exact ⟨zX,zW HB⟩
 rw [if_pos c5] at H;have c5b0:=decide_eq_true c5;clear c5
 by_cases c6 : a0_2 ≥ 0
 ·rw [if_pos c6] at H;have c6b0:=decide_eq_true c6;clear c6;obtain rfl:=Option.some.inj H
  go_enter Try.func56,Try.ntmps56
  go_wp2_with (first|((with_reducible refine gate_dst (N:=1) rfl ?_);refine box_event ?hg (N:=1) ?hd (cs:=#[.int .i64 a0_0,.int .i64 a0_1,.int .i64 a0_2]) (t:=24) ?hr ?_;(case hd=>rfl);(case hg=>rfl);(case hr=>first|(go_simp;done)|(go_simp;rfl));intro gb219 hg w7 hbox hb;have BK219:=zo hbox;have GW219:=zo (zS hg HB);have GE219:=zo (zS hg HB);replace HB:=zo (below_step (zW HB) hb);clear hb hbox hg;obtain ⟨hcz8_0,hfz8_0,hcz8_1,hfz8_1,hcz8_2,hfz8_2⟩:=zn3 BK219))
  go_ret
  exact ⟨zX,zW HB⟩
 rw [if_neg c6] at H;have c6b0:=decide_eq_false c6;clear c6;obtain rfl:=Option.some.inj H
 go_enter Try.func56,Try.ntmps56
 go_wp2_with (first|((with_reducible refine gate_dst (N:=1) rfl ?_);refine box_event ?hg (N:=1) ?hd (cs:=#[.int .i64 a0_0,.int .i64 a0_1,.int .i64 a0_2]) (t:=24) ?hr ?_;(case hd=>rfl);(case hg=>rfl);(case hr=>first|(go_simp;done)|(go_simp;rfl));intro gb219 hg w9 hbox hb;have BK219:=zo hbox;have GW219:=zo (zS hg HB);have GE219:=zo (zS hg HB);replace HB:=zo (below_step (zW HB) hb);clear hb hbox hg;obtain ⟨hcz10_0,hfz10_0,hcz10_1,hfz10_1,hcz10_2,hfz10_2⟩:=zn3 BK219))
 go_ret
 exact ⟨zX,zW HB⟩

def limiter_Needed.j0 : Nat→Int→Int→Bool→Option (Int)
 | 0,_,_,_=>none
 | k+1,x0,x1,x5=>if x5=true then (some 0) else (if x1≤x0 then (some 65536) else (if x1=0 then (none) else (some (wrap64 (Int.tdiv (wrap64 (x0*65536)) x1)))))
def limiter_Needed.f (k : Nat) (a0 : Int) (a1 : Int) : Option (Int):=if a0<1 then (limiter_Needed.j0 k a0 a1 true) else (if a0>8388607 then (limiter_Needed.j0 k a0 a1 true) else (if a1<0 then (limiter_Needed.j0 k a0 a1 true) else (limiter_Needed.j0 k a0 a1 (decide (a1>1099511627776)))))
theorem limiter_Needed.mono_l : ∀ k,(∀ y0 y1 y2,LeO (limiter_Needed.j0 k y0 y1 y2) (limiter_Needed.j0 (k+1) y0 y1 y2))
 | 0=>fun _ _ _ r h=>by simp [limiter_Needed.j0] at h
 | k+1=>by
  have ih0:=limiter_Needed.mono_l k
  ·intro y0 y1 y2;unfold limiter_Needed.j0
   repeat' first
   | (with_reducible exact ih0 _ _ _)
   | (with_reducible exact LeO.refl _)
   | (with_reducible exact LeO.none _)
   | (with_reducible refine LeO.ite ?_ ?_)
   | (with_reducible refine LeO.bind ?_ (fun _=>?_))
   | exact ih0 _ _ _
   | exact LeO.none _
   | refine LeO.ite ?_ ?_
   | refine LeO.bind ?_ (fun _=>?_)
theorem limiter_Needed.mono : ∀ a0 a1 k,LeO (limiter_Needed.f k a0 a1) (limiter_Needed.f (k+1) a0 a1):=by
 intro a0 a1 k;have ih0:=limiter_Needed.mono_l k;unfold limiter_Needed.f
 repeat' first
   | (with_reducible exact ih0 _ _ _)
   | (with_reducible exact LeO.refl _)
   | (with_reducible exact LeO.none _)
   | (with_reducible refine LeO.ite ?_ ?_)
   | (with_reducible refine LeO.bind ?_ (fun _=>?_))
   | exact ih0 _ _ _
   | exact LeO.none _
   | refine LeO.ite ?_ ?_
   | refine LeO.bind ?_ (fun _=>?_)
set_option maxHeartbeats 8000000 in
set_option maxRecDepth 100000 in
theorem limiter_Needed.calls (k : Nat) (a0 : Int) (a1 : Int) (r : Int) (w : World) (h : limiter_Needed.f k a0 a1=some r) :
  Calls Try.prog 58 #[.int .i64 a0,.int .i64 a1] w fun e w'=>e = .returned (.int .i64 r)∧Drawn0 w w':=by
 have H:=h;unfold limiter_Needed.f at H;clear h;have HC3:=zo H;clear H
 go_enter Try.func58,Try.ntmps58
 go_upto_region 1 with (fail)
 go_cut [5] (fun v5 wc=>∃ (kq : Nat) (x5_2 : Bool),v5 = .bool x5_2∧Aside0 (limiter_Needed.j0 kq a0 a1 x5_2=some r)∧Aside0 (kq≤k)∧Drawn0 w wc)
 case first=>
  have H:=HC3.out;clear HC3
  by_cases c4 : a0<1
  ·rw [if_pos c4] at H;have c4b0:=decide_eq_true c4;clear c4;(first|rw [c4b0]|(simp only [i64_w,i32_w];rw [c4b0])|skip);have H':=zo H;clear H
   go_wp2
   go_meet
   case rel=>exact ⟨_,(true),zE,H',⟨zY⟩,by repeat (first|exact Drawn0.refl _|apply Drawn0.step)⟩
  rw [if_neg c4] at H;have c4b0:=decide_eq_false c4;clear c4;(first|rw [c4b0]|(simp only [i64_w,i32_w];rw [c4b0])|skip)
  by_cases c5 : a0>8388607
  ·rw [if_pos c5] at H;have c5b0:=decide_eq_true c5;clear c5;have H':=zo H;clear H
   go_wp2
   go_meet
   case rel=>exact ⟨_,(true),zE,H',⟨zY⟩,by repeat (first|exact Drawn0.refl _|apply Drawn0.step)⟩
  rw [if_neg c5] at H;have c5b0:=decide_eq_false c5;clear c5
  by_cases c6 : a1<0
  ·rw [if_pos c6] at H;have c6b0:=decide_eq_true c6;clear c6;have H':=zo H;clear H
   go_wp2
   go_meet
   case rel=>exact ⟨_,(true),zE,H',⟨zY⟩,by repeat (first|exact Drawn0.refl _|apply Drawn0.step)⟩
  rw [if_neg c6] at H;have c6b0:=decide_eq_false c6;clear c6;have H':=zo H;clear H
  go_wp2
  go_meet
  case rel=>exact ⟨_,(decide (a1>1099511627776)),zE,H',⟨zY⟩,by repeat (first|exact Drawn0.refl _|apply Drawn0.step)⟩
 case rest=>
  clear HC3
  try clear p2
  try clear c4
  try clear c4b0
  try clear c5
  try clear c5b0
  try clear c6
  try clear c6b0
  obtain ⟨kq,x5_2,rfl,HA,HJ2,⟨mc2,rfl⟩⟩:=hcut
  cases kq with
  | zero=>exact absurd HA.out (by simp [limiter_Needed.j0])
  | succ kj2=>
   have H:=HA.out;clear HA;simp only [limiter_Needed.j0] at H
   by_cases c7 : x5_2=true
   ·subst c7;have H1:=H;rw [if_pos rfl] at H1;clear H;have H:=H1;clear H1;obtain rfl:=Option.some.inj H
    go_wp2
    go_ret
    exact ⟨by first|rfl|(simp;done)|(simp [*];done),by repeat (first|exact Drawn0.refl _|apply Drawn0.step)⟩
   replace c7:=Bool.eq_false_iff.mpr c7;subst c7;have H1:=H;rw [if_neg (show ¬ (false=true) by decide)] at H1;clear H;have H:=H1;clear H1
   by_cases c8 : a1≤a0
   ·rw [if_pos c8] at H;have c8b0:=decide_eq_true c8;clear c8;obtain rfl:=Option.some.inj H
    go_wp2
    go_ret
    exact ⟨by first|rfl|(simp;done)|(simp [*];done),by repeat (first|exact Drawn0.refl _|apply Drawn0.step)⟩
   rw [if_neg c8] at H;have c8b0:=decide_eq_false c8;clear c8
   by_cases c9 : a1=0
   ·rw [if_pos c9] at H;exact absurd H (by simp)
   rw [if_neg c9] at H;have c9b0 : (a1 == 0)=false:=beq_eq_false_iff_ne.mpr c9;have c9b1 : (a1 != 0)=true:=bne_iff_ne.mpr c9;obtain rfl:=Option.some.inj H
   go_wp2
   go_ret
   exact ⟨by first|rfl|(simp;done)|(simp [*];done),by repeat (first|exact Drawn0.refl _|apply Drawn0.step)⟩

end Go.Proofs.Ytcnmemcclhahnaa.QT
