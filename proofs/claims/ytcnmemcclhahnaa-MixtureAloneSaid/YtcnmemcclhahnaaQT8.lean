-- Written by a program of this session, out of the seat's translation; checked by the kernel alone.
import Derived.Test.YtcnmemcclhahnaaQT0
import Derived.Test.YtcnmemcclhahnaaQT2
import Derived.Test.YtcnmemcclhahnaaQT7
namespace Go.Proofs.Ytcnmemcclhahnaa.QT
open Go.RowKit Go.Proofs.YtcnmemcclhahnaaW.PrintWords Go.Proofs.YtcnmemcclhahnaaW.PrintLast Go.Proofs.YtcnmemcclhahnaaW.PrintMore
attribute [local go_sem] max2_int min2_int max_two min_two max_three min_three max_four min_four   -- for this text's walks alone
set_option linter.unusedVariables false
set_option linter.unusedSimpArgs false

mutual
def limiter_Run_1.l0 : Nat→List Int→Int→List Int→Int→Int→Int→Int→Int→Int→List Int→Option (Int×Int×Int×Int×List Int)
 | 0,_,_,_,_,_,_,_,_,_,_=>none
 | k+1,x0,x4,x9,x10,x11,x221000,x221001,x221002,x222000,x222001=>if x11<x10 then (if 0≤x11 then (if x11<(x9.length : Int) then (limiter_Run_1.l0 k x0 (mx (mx x4 (rd x9 x11)) (wrap64 (-(rd x9 x11)))) x9 x10 (wrap64 (x11+1)) x221000 x221001 x221002 x222000 x222001) else (none)) else (none)) else ((limiter_Needed.f k x221000 x4).bind fun t225=>(limiter_Run_1.l1 k x0 (x0.length : Int) 0 x221000 x221001 (mn t225 (wrap64 (x221002+x221001))) x222000 x222001))
def limiter_Run_1.l1 : Nat→List Int→Int→Int→Int→Int→Int→Int→List Int→Option (Int×Int×Int×Int×List Int)
 | 0,_,_,_,_,_,_,_,_=>none
 | k+1,x32,x33,x34,x221000,x221001,x221002,x222000,x222001=>if x34<x33 then (if 0≤x34 then (if x34<(x32.length : Int) then ((sample_Sat.f (wrap64 (Int.tdiv (wrap64 ((rd x32 x34)*x221002)) 65536))).bind fun t227=>(if x222001.length<35184372088832 then (limiter_Run_1.l1 k x32 x33 (wrap64 (x34+1)) x221000 x221001 x221002 x222000 (x222001 ++ [t227])) else (none))) else (none)) else (none)) else (some (x221000,x221001,x221002,x222000,x222001))
end
def limiter_Run_1.f (k : Nat) (l0 : List Int) (s900 : Int) (s901 : Int) (s902 : Int) (s910 : Int) (l911 : List Int) : Option (Int×Int×Int×Int×List Int):=limiter_Run_1.l0 k l0 0 l0 (l0.length : Int) 0 s900 s901 s902 s910 l911
theorem limiter_Run_1.mono_l : ∀ k,(∀ y0 y1 y2 y3 y4 y5 y6 y7 y8 y9,LeO (limiter_Run_1.l0 k y0 y1 y2 y3 y4 y5 y6 y7 y8 y9) (limiter_Run_1.l0 (k+1) y0 y1 y2 y3 y4 y5 y6 y7 y8 y9))∧(∀ y0 y1 y2 y3 y4 y5 y6 y7,LeO (limiter_Run_1.l1 k y0 y1 y2 y3 y4 y5 y6 y7) (limiter_Run_1.l1 (k+1) y0 y1 y2 y3 y4 y5 y6 y7))
 | 0=>⟨fun _ _ _ _ _ _ _ _ _ _ r h=>by simp [limiter_Run_1.l0] at h,fun _ _ _ _ _ _ _ _ r h=>by simp [limiter_Run_1.l1] at h⟩
 | k+1=>by
  obtain ⟨ih0,ih1⟩:=limiter_Run_1.mono_l k;refine ⟨?_,?_⟩
  ·intro y0 y1 y2 y3 y4 y5 y6 y7 y8 y9;unfold limiter_Run_1.l0
   repeat' first
   | (with_reducible exact ih0 _ _ _ _ _ _ _ _ _ _)
   | (with_reducible exact ih1 _ _ _ _ _ _ _ _)
   | (with_reducible exact limiter_Needed.mono _ _ _)
   | (with_reducible exact LeO.refl _)
   | (with_reducible exact LeO.none _)
   | (with_reducible refine LeO.ite ?_ ?_)
   | (with_reducible refine LeO.bind ?_ (fun _=>?_))
   | exact ih0 _ _ _ _ _ _ _ _ _ _
   | exact ih1 _ _ _ _ _ _ _ _
   | exact limiter_Needed.mono _ _ _
   | exact LeO.none _
   | refine LeO.ite ?_ ?_
   | refine LeO.bind ?_ (fun _=>?_)
  ·intro y0 y1 y2 y3 y4 y5 y6 y7;unfold limiter_Run_1.l1
   repeat' first
   | (with_reducible exact ih0 _ _ _ _ _ _ _ _ _ _)
   | (with_reducible exact ih1 _ _ _ _ _ _ _ _)
   | (with_reducible exact limiter_Needed.mono _ _ _)
   | (with_reducible exact LeO.refl _)
   | (with_reducible exact LeO.none _)
   | (with_reducible refine LeO.ite ?_ ?_)
   | (with_reducible refine LeO.bind ?_ (fun _=>?_))
   | exact ih0 _ _ _ _ _ _ _ _ _ _
   | exact ih1 _ _ _ _ _ _ _ _
   | exact limiter_Needed.mono _ _ _
   | exact LeO.none _
   | refine LeO.ite ?_ ?_
   | refine LeO.bind ?_ (fun _=>?_)
theorem limiter_Run_1.mono : ∀ a0 a1 a2 a3 a4 a5 k,LeO (limiter_Run_1.f k a0 a1 a2 a3 a4 a5) (limiter_Run_1.f (k+1) a0 a1 a2 a3 a4 a5):=by
 intro a0 a1 a2 a3 a4 a5 k;obtain ⟨ih0,ih1⟩:=limiter_Run_1.mono_l k;unfold limiter_Run_1.f
 repeat' first
   | (with_reducible exact ih0 _ _ _ _ _ _ _ _ _ _)
   | (with_reducible exact ih1 _ _ _ _ _ _ _ _)
   | (with_reducible exact limiter_Needed.mono _ _ _)
   | (with_reducible exact LeO.refl _)
   | (with_reducible exact LeO.none _)
   | (with_reducible refine LeO.ite ?_ ?_)
   | (with_reducible refine LeO.bind ?_ (fun _=>?_))
   | exact ih0 _ _ _ _ _ _ _ _ _ _
   | exact ih1 _ _ _ _ _ _ _ _
   | exact limiter_Needed.mono _ _ _
   | exact LeO.none _
   | refine LeO.ite ?_ ?_
   | refine LeO.bind ?_ (fun _=>?_)
def limiter_Run_1.T6 : Bool×List (List Nat×List Nat):=(true,[([],[]),([0],[0]),([],[]),([1,2],[1,2]),([],[]),([4],[4]),([],[]),([6],[6]),([5,7],[5,7]),([3,8],[3,8]),([0,1,2,3,4,5,6,7,8,9],[]),([10,9,3,0,1,2,3,4,5,6,7,8,9],[9,10])])
def limiter_Run_1.B6 : List Nat:=[0,1,0,7,0,16,0,64,240,511,1023,2047]
theorem limiter_Run_1.tab6 : rtab .any (opsOf Try.f57 6)=limiter_Run_1.T6:=by kernel_rfl
theorem limiter_Run_1.bits6 : waitsOk limiter_Run_1.T6.2 limiter_Run_1.B6=true:=by kernel_rfl
def limiter_Run_1.T10 : Bool×List (List Nat×List Nat):=(true,[([],[]),([0],[0]),([],[]),([],[]),([3],[3]),([2,4],[2,4]),([5],[5]),([6],[6]),([7],[7]),([1,8,7],[1,8]),([0,1,2,3,4,5,6,7,8,9],[]),([10,9,9,0,1,2,3,4,5,6,7,8,9],[9,10])])
def limiter_Run_1.B10 : List Nat:=[0,1,0,0,8,28,60,124,252,511,1023,2047]
theorem limiter_Run_1.tab10 : rtab .any (opsOf Try.f57 10)=limiter_Run_1.T10:=by kernel_rfl
theorem limiter_Run_1.bits10 : waitsOk limiter_Run_1.T10.2 limiter_Run_1.B10=true:=by kernel_rfl
set_option maxHeartbeats 8000000 in
set_option maxRecDepth 100000 in
theorem limiter_Run_1.calls (k : Nat) (A0 : Option Addr) (c0 : Nat) (l0 : List Int) (gc0 : Nat) (s900 : Int) (s901 : Int) (s902 : Int) (gc1 : Nat) (s910 : Int) (l911 : List Int) (v911_ : Value) (gc2 : Nat) (s920 : Int) (gc3 : Nat) (s930 : Int) (s931 : Int) (s932 : Int) (r1 : Int) (r2 : Int) (r3 : Int) (r4 : Int) (r5 : List Int) (w0 w : World) (hr0 : Kd.C (Kd.int .i64) w0 A0 l0.length l0) (hc0 : l0.length≤c0) (hcb_gc0 : w.heap[gc0]?=some (.cells #[.int .i64 s900,.int .i64 s901,.int .i64 s902] 24 (0,0))) (hcg_gc0 : w0.heap.size≤gc0) (hcb_gc1 : w.heap[gc1]?=some (.cells #[.int .i64 s910,v911_] 43 (0,0))) (hcg_gc1 : w0.heap.size≤gc1) (hHO911 : Kd.R (Kd.int .i32) 21 w w0.heap.size (fun _=>True) v911_ l911) (hcb_gc2 : w.heap[gc2]?=some (.cells #[.int .i64 s920,.slice none 0 0] 43 (0,0))) (hcg_gc2 : w0.heap.size≤gc2) (hcb_gc3 : w.heap[gc3]?=some (.cells #[.int .i64 s930,.int .i64 s931,.int .i64 s932] 24 (0,0))) (hcg_gc3 : w0.heap.size≤gc3) (hcn_gc0_gc1 : gc0≠gc1) (hcn_gc0_gc2 : gc0≠gc2) (hcn_gc0_gc3 : gc0≠gc3) (hcn_gc1_gc2 : gc1≠gc2) (hcn_gc1_gc3 : gc1≠gc3) (hcn_gc2_gc3 : gc2≠gc3) (hB : Below w0.heap.size w0 w) (h : limiter_Run_1.f k l0 s900 s901 s902 s910 l911=some (r1,r2,r3,r4,r5)) :
  Calls Try.prog 57 #[.slice A0 l0.length c0,.pointer (some ⟨gc0,0,none⟩),.pointer (some ⟨gc1,0,none⟩)] w fun e w'=>∃ v911_' : Value,e = .returned (.tuple #[])∧w'.heap[gc0]?=some (.cells #[.int .i64 r1,.int .i64 r2,.int .i64 r3] 24 (0,0))∧Kd.R (Kd.int .i32) 21 w' w0.heap.size (fun _=>True) v911_' r5∧w'.heap[gc1]?=some (.cells #[.int .i64 r4,v911_'] 43 (0,0))∧w'.heap[gc2]?=some (.cells #[.int .i64 s920,.slice none 0 0] 43 (0,0))∧w'.heap[gc3]?=some (.cells #[.int .i64 s930,.int .i64 s931,.int .i64 s932] 24 (0,0))∧Below w0.heap.size w0 w':=by
 have HR0:=zo hr0;have HC0:=zo hc0;clear hr0 hc0;have HB:=zo hB;clear hB;have BK220:=zo hcb_gc0;have GW220:=zo hcg_gc0;have GE220:=zo hcg_gc0;clear hcb_gc0 hcg_gc0;have BK221:=zo hcb_gc1;have GW221:=zo hcg_gc1;have GE221:=zo hcg_gc1;clear hcb_gc1 hcg_gc1;have HO911:=zo hHO911;clear hHO911;have BK222:=zo hcb_gc2;have GW222:=zo hcg_gc2;have GE222:=zo hcg_gc2;clear hcb_gc2 hcg_gc2;have BK223:=zo hcb_gc3;have GW223:=zo hcg_gc3;have GE223:=zo hcg_gc3;clear hcb_gc3 hcg_gc3;have NB220_221:=zo hcn_gc0_gc1;have NB221_220:=zo (Ne.symm hcn_gc0_gc1);clear hcn_gc0_gc1;have NB220_222:=zo hcn_gc0_gc2;have NB222_220:=zo (Ne.symm hcn_gc0_gc2);clear hcn_gc0_gc2;have NB220_223:=zo hcn_gc0_gc3;have NB223_220:=zo (Ne.symm hcn_gc0_gc3);clear hcn_gc0_gc3;have NB221_222:=zo hcn_gc1_gc2;have NB222_221:=zo (Ne.symm hcn_gc1_gc2);clear hcn_gc1_gc2;have NB221_223:=zo hcn_gc1_gc3;have NB223_221:=zo (Ne.symm hcn_gc1_gc3);clear hcn_gc1_gc3;have NB222_223:=zo hcn_gc2_gc3;have NB223_222:=zo (Ne.symm hcn_gc2_gc3);clear hcn_gc2_gc3;have H:=h;unfold limiter_Run_1.f at H;clear h;have H':=zo H;clear H
 go_enter Try.func57,Try.ntmps57
 go_wp2
 go_loopg [4,11] k (fun kq v4 v11 w'=>∃ (x4_1 : Int) (x11_1 : Int),v4 = .int .i64 x4_1∧v11 = .int .i64 x11_1∧Aside0 (limiter_Run_1.l0 kq l0 x4_1 l0 (l0.length : Int) x11_1 s900 s901 s902 s910 l911=some (r1,r2,r3,r4,r5))∧Aside0 (kq≤k)∧Aside0 (Kd.R (Kd.int .i32) 21 w' w0.heap.size (fun _=>True) v911_ l911)∧Aside0 (w'.heap[gc0]?=some (.cells #[.int .i64 s900,.int .i64 s901,.int .i64 s902] 24 (0,0)))∧Aside0 (w'.heap[gc1]?=some (.cells #[.int .i64 s910,v911_] 43 (0,0)))∧Aside0 (w'.heap[gc2]?=some (.cells #[.int .i64 s920,(.slice none 0 0)] 43 (0,0)))∧Aside0 (w'.heap[gc3]?=some (.cells #[.int .i64 s930,.int .i64 s931,.int .i64 s932] 24 (0,0)))∧Aside0 (Below w0.heap.size w0 w'))
 case atStart=>exact ⟨(0),(0),zE,zE,H',⟨Nat.le_refl _⟩,⟨zR HO911⟩,⟨zB BK220⟩,⟨zB BK221⟩,⟨zB BK222⟩,⟨zB BK223⟩,⟨zW HB⟩⟩
 case round=>
  clear H'
  try clear c1
  obtain ⟨x4_1,x11_1,rfl,rfl,HA,HK1,HO_222001,BK220,BK221,BK222,BK223,HB⟩:=hrel
  cases gk with
  | zero=>exact absurd HA.out (by simp [limiter_Run_1.l0])
  | succ k1=>
   have H:=HA.out;clear HA;simp only [limiter_Run_1.l0] at H
   by_cases c2 : x11_1<(l0.length : Int)
   ·rw [if_pos c2] at H;have c2b0:=decide_eq_true c2;clear c2
    by_cases c3 : 0≤x11_1
    rotate_left
    ·rw [if_neg c3] at H;exact absurd H (by simp)
    rw [if_pos c3] at H;have c3b0:=decide_eq_true c3;clear c3
    by_cases c4 : x11_1<(l0.length : Int)
    rotate_left
    ·rw [if_neg c4] at H;exact absurd H (by simp)
    rw [if_pos c4] at H;have c4b0:=decide_eq_true c4;clear c4;obtain ⟨ji5,hji5⟩ : ∃ j_ : Int,(mx x4_1 (rd l0 x11_1))=j_:=⟨_,rfl⟩;(first|rw [hji5] at H|simp only [hji5] at H);have hji5_ : (if x4_1<(rd l0 x11_1) then (rd l0 x11_1) else x4_1)=ji5:=hji5;obtain ⟨ji6,hji6⟩ : ∃ j_ : Int,(mx (ji5) (wrap64 (-(rd l0 x11_1))))=j_:=⟨_,rfl⟩;(first|rw [hji6] at H|simp only [hji6] at H);have hji6_ : (if (ji5)<(wrap64 (-(rd l0 x11_1))) then (wrap64 (-(rd l0 x11_1))) else (ji5))=ji6:=hji6;have H':=zo H;clear H;have p224 : 0≤(x11_1 : Int):=zD;have q224 : x11_1<(l0.length : Int):=zD;obtain ⟨ad224,e224,hx224_0⟩:=Kd.at_int HR0.out x11_1 p224 q224
    cases e224
    (try (replace hx224_0:=(HB.out.cell (World.block_lt_of_cell? w0 _ hx224_0)).trans hx224_0));replace p224:=eq_true p224;replace q224:=eq_true q224
    go_wp2
    go_roundg k1
    case measure=>have:=HK1.out;omega
    case rel=>exact ⟨(ji6),(wrap64 (x11_1+1)),(by first|rfl|(simp;done)|(simp only [← hji6] <;> (first|rfl|simp))|(simp [*];done)),zE,H',⟨by have:=HK1.out;omega⟩,⟨zR HO_222001⟩,⟨zB BK220⟩,⟨zB BK221⟩,⟨zB BK222⟩,⟨zB BK223⟩,⟨zW HB⟩⟩
   rw [if_neg c2] at H;have c2b0:=decide_eq_false c2;clear c2;replace H:=Option.bind_eq_some_iff.mp H;obtain ⟨t225,A70,H⟩:=H
   try dsimp only at H
   have A7:=zo A70;clear A70;obtain ⟨ji8,hji8⟩ : ∃ j_ : Int,(mn t225 (wrap64 (s902+s901)))=j_:=⟨_,rfl⟩;(first|rw [hji8] at H|simp only [hji8] at H);(try rw [hji8] at A7);have hji8_ : (if (wrap64 (s902+s901))<t225 then (wrap64 (s902+s901)) else t225)=ji8:=hji8;have H':=zo H;clear H
   try go_wp2
   have n0_:=zo (Kd.R_drew HO_222001.out);have n1_:=zo (blk_drew BK220.out);have n2_:=zo (blk_drew BK221.out);have n3_:=zo (blk_drew BK222.out);have n4_:=zo (blk_drew BK223.out);have n5_:=zo (below_drew1 HB.out);clear HO_222001;clear BK220;clear BK221;clear BK222;clear BK223;clear HB;have HO_222001:=n0_;have BK220:=n1_;have BK221:=n2_;have BK222:=n3_;have BK223:=n4_;have HB:=n5_;clear n0_ n1_ n2_ n3_ n4_ n5_;refine start_ (n:=12) (S:=fun w'=>w'.cell? ⟨gc0,0,none⟩=some (.int .i64 s900)∧w'.cell? ⟨gc0,1,none⟩=some (.int .i64 s901)∧w'.cell? ⟨gc0,2,none⟩=some (.int .i64 s902)) (ds:=[11]) #[false,false,false,false,false,false,false,false,false,false,false,false] zk rfl rfl ⟨(blk_cell BK220.out 0).trans rfl,(blk_cell BK220.out 1).trans rfl,(blk_cell BK220.out 2).trans rfl⟩ (fun hHeld=>?_);refine with_tabW limiter_Run_1.tab6 limiter_Run_1.bits6 (fun HT_ HW_=>?_);generalize wr.drew=w9 at HO_222001 BK220 BK221 BK222 BK223 HB hHeld ⊢;refine pure_ (i:=0) (N:=some 21) (v:=?_) (a':=?_) #[true,false,false,false,false,false,false,false,false,false,false,false] rfl rfl (any_of HT_.out zk) (fun _ _ _ h=>h) (Or.inl ⟨by rfl,?_⟩) ?_ ?_;rotate_left
   ·intro w'
    go_simp
    with_reducible rfl
   rotate_left
   ·simp only [Act.put,List.setIfInBounds_toArray,List.set_cons_zero,List.set_cons_succ,i64_w,i32_w];rfl
   refine pure_ (i:=2) (N:=some 23) (v:=?_) (a':=?_) #[true,false,true,false,false,false,false,false,false,false,false,false] rfl rfl (any_of HT_.out zk) (fun _ _ _ h=>h) (Or.inl ⟨by rfl,?_⟩) ?_ ?_;rotate_left
   ·intro w'
    go_simp
    with_reducible rfl
   rotate_left
   ·simp only [Act.put,List.setIfInBounds_toArray,List.set_cons_zero,List.set_cons_succ,i64_w,i32_w];rfl
   refine pure_ (i:=4) (N:=some 25) (v:=?_) (a':=?_) #[true,false,true,false,true,false,false,false,false,false,false,false] rfl rfl (any_of HT_.out zk) (fun _ _ _ h=>h) (Or.inl ⟨by rfl,?_⟩) ?_ ?_;rotate_left
   ·intro w'
    go_simp
    with_reducible rfl
   rotate_left
   ·simp only [Act.put,List.setIfInBounds_toArray,List.set_cons_zero,List.set_cons_succ,i64_w,i32_w];rfl
   refine pure_ (i:=6) (N:=some 27) (v:=?_) (a':=?_) #[true,false,true,false,true,false,true,false,false,false,false,false] rfl rfl (any_of HT_.out zk) (fun _ _ _ h=>h) (Or.inl ⟨by rfl,?_⟩) ?_ ?_;rotate_left
   ·intro w'
    go_simp
    with_reducible rfl
   rotate_left
   ·simp only [Act.put,List.setIfInBounds_toArray,List.set_cons_zero,List.set_cons_succ,i64_w,i32_w];rfl
   refine take_ (i:=1) (N:=some 22) (v:=?_) (a':=?_) #[true,true,true,false,true,false,true,false,false,false,false,false] rfl rfl (take_ofW HT_.out HW_.out zk) (fun _ _ _ h=>h) (Or.inl ⟨by rfl,?_⟩) hHeld ?_ ?_;rotate_left
   ·rintro w' ⟨s0,s1,s2⟩
    go_simp
    with_reducible rfl
   rotate_left
   ·simp only [Act.put,List.setIfInBounds_toArray,List.set_cons_zero,List.set_cons_succ,i64_w,i32_w];rfl
   refine take_ (i:=5) (N:=some 26) (v:=?_) (a':=?_) #[true,true,true,false,true,true,true,false,false,false,false,false] rfl rfl (take_ofW HT_.out HW_.out zk) (fun _ _ _ h=>h) (Or.inl ⟨by rfl,?_⟩) hHeld ?_ ?_;rotate_left
   ·rintro w' ⟨s0,s1,s2⟩
    go_simp
    with_reducible rfl
   rotate_left
   ·simp only [Act.put,List.setIfInBounds_toArray,List.set_cons_zero,List.set_cons_succ,i64_w,i32_w];rfl
   refine take_ (i:=7) (N:=some 28) (v:=?_) (a':=?_) #[true,true,true,false,true,true,true,true,false,false,false,false] rfl rfl (take_ofW HT_.out HW_.out zk) (fun _ _ _ h=>h) (Or.inl ⟨by rfl,?_⟩) hHeld ?_ ?_;rotate_left
   ·rintro w' ⟨s0,s1,s2⟩
    go_simp
    with_reducible rfl
   rotate_left
   ·simp only [Act.put,List.setIfInBounds_toArray,List.set_cons_zero,List.set_cons_succ,i64_w,i32_w];rfl
   refine pure_ (i:=8) (N:=some 29) (v:=?_) (a':=?_) #[true,true,true,false,true,true,true,true,true,false,false,false] rfl rfl (any_of HT_.out zk) (fun _ _ _ h=>h) (Or.inl ⟨by rfl,?_⟩) ?_ ?_;rotate_left
   ·intro w'
    go_simp
    with_reducible rfl
   rotate_left
   ·simp only [Act.put,List.setIfInBounds_toArray,List.set_cons_zero,List.set_cons_succ,i64_w,i32_w];rfl
   refine one_ (i:=3) (N:=some 24) #[true,true,true,true,true,true,true,true,true,false,false,false] rfl rfl (one_of HT_.out zk) (by decide) (fun K hK=>?_);refine goes_ Try.func58 zk rfl #[.int .i64 s900,.int .i64 x4_1] (by rfl) rfl rfl zA ?_
   with_reducible refine (limiter_Needed.calls k1 s900 x4_1 t225 _ A7.out).mono ?_
   rintro e w' ⟨rfl,⟨nd,rfl⟩⟩;refine ⟨_,rfl,?_⟩;refine hK.out _ _ ⟨(blk_cell BK220.out 0).trans rfl,(blk_cell BK220.out 1).trans rfl,(blk_cell BK220.out 2).trans rfl⟩ (fun hHeld=>?_);clear hK K;refine norm_ (a':=?_) ?_ ?_;rotate_left
   ·show Act.put _ (some 24) _=_
    simp only [Act.put,List.setIfInBounds_toArray,List.set_cons_zero,List.set_cons_succ,i64_w,i32_w];rfl
   refine pure_ (i:=9) (N:=some 30) (v:=?_) (a':=?_) #[true,true,true,true,true,true,true,true,true,true,false,false] rfl rfl (any_of HT_.out zk) (fun _ _ _ h=>h) (Or.inl ⟨by rfl,?_⟩) ?_ ?_;rotate_left
   ·intro w'
    go_simp
    with_reducible rfl
   rotate_left
   ·simp only [Act.put,List.setIfInBounds_toArray,List.set_cons_zero,List.set_cons_succ,i64_w,i32_w];rfl
   refine pure_ (i:=10) (N:=some 31) (v:=?_) (a':=?_) #[true,true,true,true,true,true,true,true,true,true,true,false] rfl rfl (any_of HT_.out zk) (fun _ _ _ h=>h) (Or.inl ⟨by rfl,?_⟩) ?_ ?_;rotate_left
   ·intro w'
    go_simp
    with_reducible rfl
   rotate_left
   ·simp only [Act.put,List.setIfInBounds_toArray,List.set_cons_zero,List.set_cons_succ,i64_w,i32_w];rfl
   refine last_ (i:=11) (N:=none) #[true,true,true,true,true,true,true,true,true,true,true,true] rfl rfl (one_of HT_.out zk) (by decide) (fun K hK=>?_);have hs10:=zc BK220 2 (.int .i64 s902) rfl;have hfs10:=blk_frozen BK220.out 2;have hns10_1:=NB221_220.out;have hns10_2:=NB222_220.out;have hns10_3:=NB223_220.out;have hms10_1:=NB220_221.out;have hms10_2:=NB220_222.out;have hms10_3:=NB220_223.out;refine skip_ (w1:=?_) (by rfl) rfl ?_ ?_;rotate_left
   ·go_simp
    rfl
   refine hK.out _ _ ?_;clear hK K;refine done_ (done_of HT_.out zk) ?_
   try go_wp2
   go_loopg [34] k1 (fun kq v34 w'=>∃ (x34_2 : Int) (x222001_2 : List Int) (u222001 : Value),v34 = .int .i64 x34_2∧Aside0 (limiter_Run_1.l1 kq l0 (l0.length : Int) x34_2 s900 s901 ji8 s910 x222001_2=some (r1,r2,r3,r4,r5))∧Aside0 (kq≤k1)∧Aside0 (Kd.R (Kd.int .i32) 21 w' w0.heap.size (fun _=>True) u222001 x222001_2)∧Aside0 (w'.heap[gc0]?=some (.cells #[.int .i64 s900,.int .i64 s901,.int .i64 ji8] 24 (0,0)))∧Aside0 (w'.heap[gc1]?=some (.cells #[.int .i64 s910,u222001] 43 (0,0)))∧Aside0 (w'.heap[gc2]?=some (.cells #[.int .i64 s920,(.slice none 0 0)] 43 (0,0)))∧Aside0 (w'.heap[gc3]?=some (.cells #[.int .i64 s930,.int .i64 s931,.int .i64 s932] 24 (0,0)))∧Aside0 (Below w0.heap.size w0 w'))
   case atStart=>exact ⟨(0),(l911),(v911_),zE,H',⟨Nat.le_refl _⟩,⟨by (with_reducible repeat (first|apply Kd.R_alloc|apply Kd.R_drewN|apply Kd.R_drew));exact Kd.R_mono (Kd.R_far (p:=⟨gc0,2,none⟩) (Kd.R_types HO_222001.out BK220.out (by decide)) (fun _ hk=>hk.2) (.int .i64 ji8)) (fun _ hk=>trivial)⟩,⟨zB BK220⟩,⟨zB BK221⟩,⟨zB BK222⟩,⟨zB BK223⟩,⟨zW HB⟩⟩
   case round=>
    clear H'
    try clear c1
    try clear c2
    try clear c2b0
    try clear p2
    try clear q2
    try clear hx2
    try clear c3
    try clear c3b0
    try clear c4
    try clear c4b0
    try clear c5
    try clear p6
    try clear hx224_0
    try clear p224
    try clear q224
    obtain ⟨x34_2,x222001_2,u222001,rfl,HA,HK2,HO_222001,BK220,BK221,BK222,BK223,HB⟩:=hrel
    cases gk with
    | zero=>exact absurd HA.out (by simp [limiter_Run_1.l1])
    | succ k2=>
     have H:=HA.out;clear HA;simp only [limiter_Run_1.l1] at H
     by_cases c11 : x34_2<(l0.length : Int)
     rotate_left
     ·rw [if_neg c11] at H;have c11b0:=decide_eq_false c11;clear c11;simp only [Option.some.injEq,Prod.mk.injEq] at H;obtain ⟨rfl,rfl,rfl,rfl,rfl⟩:=H
      go_wp2
      first|go_end0|((try simp only [Exit.inBlock,Exit.then]);refine bodyPost_ret (results_none rfl _ _ _) rfl ?_)
      first|exact ⟨_,by first|rfl|(simp <;> rfl),(zB BK220),(zR HO_222001),(zB BK221),(zB BK222),(zB BK223),zW HB⟩|exact ⟨_,(zB BK220),(zR HO_222001),(zB BK221),(zB BK222),(zB BK223),zW HB⟩|exact ⟨by first|rfl|(simp <;> rfl),(zB BK220),_,(zR HO_222001),(zB BK221),(zB BK222),(zB BK223),zW HB⟩
     rw [if_pos c11] at H;have c11b0:=decide_eq_true c11;clear c11
     by_cases c12 : 0≤x34_2
     rotate_left
     ·rw [if_neg c12] at H;exact absurd H (by simp)
     rw [if_pos c12] at H;have c12b0:=decide_eq_true c12;clear c12
     by_cases c13 : x34_2<(l0.length : Int)
     rotate_left
     ·rw [if_neg c13] at H;exact absurd H (by simp)
     rw [if_pos c13] at H;have c13b0:=decide_eq_true c13;clear c13;replace H:=Option.bind_eq_some_iff.mp H;obtain ⟨t227,A140,H⟩:=H
     try dsimp only at H
     have A14:=zo A140;clear A140
     by_cases c15 : x222001_2.length<35184372088832
     rotate_left
     ·rw [if_neg c15] at H;exact absurd H (by simp)
     rw [if_pos c15] at H;have LMc15:=zo c15;clear c15;obtain ⟨y228,hy228⟩ : ∃ y_ : List Int,y_=(x222001_2 ++ [t227]):=⟨_,rfl⟩;replace H : (limiter_Run_1.l1 k2 l0 (l0.length : Int) (wrap64 (x34_2+1)) s900 s901 ji8 s910 y228)=some (r1,r2,r3,r4,r5):=by first|(rw [hy228];with_reducible exact H)|(have H2_:=(Option.bind_some _ _).symm.trans H;rw [hy228];with_reducible exact H2_)|(have H2_:=(Option.bind_some _ _).symm.trans H;with_reducible exact H2_)|with_reducible exact H|(rw [hy228];exact H)|exact H
     have Ny228:=zo hy228;clear hy228;have H':=zo H;clear H;have p226 : 0≤(x34_2 : Int):=zD;have q226 : x34_2<(l0.length : Int):=zD;obtain ⟨ad226,e226,hx226_0⟩:=Kd.at_int HR0.out x34_2 p226 q226
     cases e226
     (try (replace hx226_0:=(HB.out.cell (World.block_lt_of_cell? w0 _ hx226_0)).trans hx226_0));replace p226:=eq_true p226;replace q226:=eq_true q226
     try go_wp2
     have n0_:=zo (Kd.R_drew HO_222001.out);have n1_:=zo (blk_drew BK220.out);have n2_:=zo (blk_drew BK221.out);have n3_:=zo (blk_drew BK222.out);have n4_:=zo (blk_drew BK223.out);have n5_:=zo (below_drew1 HB.out);clear HO_222001;clear BK220;clear BK221;clear BK222;clear BK223;clear HB;have HO_222001:=n0_;have BK220:=n1_;have BK221:=n2_;have BK222:=n3_;have BK223:=n4_;have HB:=n5_;clear n0_ n1_ n2_ n3_ n4_ n5_;refine start_ (n:=12) (S:=fun w'=>w'.cell? ⟨gc1,0,none⟩=some (.int .i64 s910)∧w'.cell? ⟨gc1,1,none⟩=some (u222001)∧w'.cell? ⟨gc0,0,none⟩=some (.int .i64 s900)∧w'.cell? ⟨gc0,1,none⟩=some (.int .i64 s901)∧w'.cell? ⟨gc0,2,none⟩=some (.int .i64 ji8)) (ds:=[11]) #[false,false,false,false,false,false,false,false,false,false,false,false] zk rfl rfl ⟨(blk_cell BK221.out 0).trans rfl,(blk_cell BK221.out 1).trans rfl,(blk_cell BK220.out 0).trans rfl,(blk_cell BK220.out 1).trans rfl,(blk_cell BK220.out 2).trans rfl⟩ (fun hHeld=>?_);refine with_tabW limiter_Run_1.tab10 limiter_Run_1.bits10 (fun HT_ HW_=>?_);generalize wr.drew=w16 at HO_222001 BK220 BK221 BK222 BK223 HB hHeld ⊢;refine pure_ (i:=0) (N:=some 38) (v:=?_) (a':=?_) #[true,false,false,false,false,false,false,false,false,false,false,false] rfl rfl (any_of HT_.out zk) (fun _ _ _ h=>h) (Or.inl ⟨by rfl,?_⟩) ?_ ?_;rotate_left
     ·intro w'
      go_simp
      with_reducible rfl
     rotate_left
     ·simp only [Act.put,List.setIfInBounds_toArray,List.set_cons_zero,List.set_cons_succ,i64_w,i32_w];rfl
     refine pure_ (i:=2) (N:=some 40) (v:=?_) (a':=?_) #[true,false,true,false,false,false,false,false,false,false,false,false] rfl rfl (any_of HT_.out zk) (fun _ _ _ h=>h) (Or.inl ⟨by rfl,?_⟩) ?_ ?_;rotate_left
     ·intro w'
      go_simp
      with_reducible rfl
     rotate_left
     ·simp only [Act.put,List.setIfInBounds_toArray,List.set_cons_zero,List.set_cons_succ,i64_w,i32_w];rfl
     refine pure_ (i:=3) (N:=some 41) (v:=?_) (a':=?_) #[true,false,true,true,false,false,false,false,false,false,false,false] rfl rfl (any_of HT_.out zk) (fun _ _ _ h=>h) (Or.inl ⟨by rfl,?_⟩) ?_ ?_;rotate_left
     ·intro w'
      go_simp
      with_reducible rfl
     rotate_left
     ·simp only [Act.put,List.setIfInBounds_toArray,List.set_cons_zero,List.set_cons_succ,i64_w,i32_w];rfl
     refine take_ (i:=1) (N:=some 39) (v:=?_) (a':=?_) #[true,true,true,true,false,false,false,false,false,false,false,false] rfl rfl (take_ofW HT_.out HW_.out zk) (fun _ _ _ h=>h) (Or.inl ⟨by rfl,?_⟩) hHeld ?_ ?_;rotate_left
     ·rintro w' ⟨s0,s1,s2,s3,s4⟩
      go_simp
      with_reducible rfl
     rotate_left
     ·simp only [Act.put,List.setIfInBounds_toArray,List.set_cons_zero,List.set_cons_succ,i64_w,i32_w];rfl
     refine take_ (i:=4) (N:=some 42) (v:=?_) (a':=?_) #[true,true,true,true,true,false,false,false,false,false,false,false] rfl rfl (take_ofW HT_.out HW_.out zk) (fun _ _ _ h=>h) (Or.inl ⟨by rfl,?_⟩) hHeld ?_ ?_;rotate_left
     ·rintro w' ⟨s0,s1,s2,s3,s4⟩
      go_simp
      with_reducible rfl
     rotate_left
     ·simp only [Act.put,List.setIfInBounds_toArray,List.set_cons_zero,List.set_cons_succ,i64_w,i32_w];rfl
     refine pure_ (i:=5) (N:=some 43) (v:=?_) (a':=?_) #[true,true,true,true,true,true,false,false,false,false,false,false] rfl rfl (any_of HT_.out zk) (fun _ _ _ h=>h) (Or.inl ⟨by rfl,?_⟩) ?_ ?_;rotate_left
     ·intro w'
      go_simp
      with_reducible rfl
     rotate_left
     ·simp only [Act.put,List.setIfInBounds_toArray,List.set_cons_zero,List.set_cons_succ,i64_w,i32_w];rfl
     refine pure_ (i:=6) (N:=some 44) (v:=?_) (a':=?_) #[true,true,true,true,true,true,true,false,false,false,false,false] rfl rfl (any_of HT_.out zk) (fun _ _ _ h=>h) (Or.inl ⟨by rfl,?_⟩) ?_ ?_;rotate_left
     ·intro w'
      go_simp
      with_reducible rfl
     rotate_left
     ·simp only [Act.put,List.setIfInBounds_toArray,List.set_cons_zero,List.set_cons_succ,i64_w,i32_w];rfl
     refine one_ (i:=7) (N:=some 45) #[true,true,true,true,true,true,true,true,false,false,false,false] rfl rfl (one_of HT_.out zk) (by decide) (fun K hK=>?_);refine goes_ Try.func59 zk rfl #[.int .i64 (wrap64 (Int.tdiv (wrap64 ((rd l0 x34_2)*ji8)) 65536))] (by rfl) rfl rfl (by (try simp only [List.map_toArray,List.map_cons,List.map_nil]);first|done|(simp only [hji8];rfl)|rfl|(simp only [List.length_drop,List.length_take];rfl)) ?_
     with_reducible refine (sample_Sat.calls (wrap64 (Int.tdiv (wrap64 ((rd l0 x34_2)*ji8)) 65536)) t227 _ A14.out).mono ?_
     rintro e w17 ⟨rfl,hb⟩;refine ⟨_,rfl,?_⟩;have n0_:=zo (Kd.R_below (zR HO_222001) hb);have n1_:=zo (blk_below (zB BK220) hb);have n2_:=zo (blk_below (zB BK221) hb);have n3_:=zo (blk_below (zB BK222) hb);have n4_:=zo (blk_below (zB BK223) hb);have n5_:=zo (below_step (zW HB) hb);clear HO_222001;clear BK220;clear BK221;clear BK222;clear BK223;clear HB;have HO_222001:=n0_;have BK220:=n1_;have BK221:=n2_;have BK222:=n3_;have BK223:=n4_;have HB:=n5_;clear n0_ n1_ n2_ n3_ n4_ n5_;(try clear hb);(try clear hb2);(try clear hk);(try clear hi);(try clear hgw);refine hK.out _ _ ⟨(blk_cell BK221.out 0).trans rfl,(blk_cell BK221.out 1).trans rfl,(blk_cell BK220.out 0).trans rfl,(blk_cell BK220.out 1).trans rfl,(blk_cell BK220.out 2).trans rfl⟩ (fun hHeld=>?_);clear hK K;refine norm_ (a':=?_) ?_ ?_;rotate_left
     ·show Act.put _ (some 45) _=_
      simp only [Act.put,List.setIfInBounds_toArray,List.set_cons_zero,List.set_cons_succ,i64_w,i32_w];rfl
     refine one_ (i:=8) (N:=some 46) #[true,true,true,true,true,true,true,true,true,false,false,false] rfl rfl (one_of HT_.out zk) (by decide) (fun K hK=>?_);refine value_ (w1:=?_) (v:=?_) (by rfl) rfl ?_ ?_;rotate_left 2
     ·go_simp
      constructor
      ·rfl
      ·rfl
     refine hK.out _ _ ⟨(blk_cell (blk_alloc BK221.out _) 0).trans rfl,(blk_cell (blk_alloc BK221.out _) 1).trans rfl,(blk_cell (blk_alloc BK220.out _) 0).trans rfl,(blk_cell (blk_alloc BK220.out _) 1).trans rfl,(blk_cell (blk_alloc BK220.out _) 2).trans rfl⟩ (fun hHeld=>?_);clear hK K;refine norm_ (a':=?_) ?_ ?_;rotate_left
     ·show Act.put _ (some 46) _=_
      simp only [Act.put,List.setIfInBounds_toArray,List.set_cons_zero,List.set_cons_succ,i64_w,i32_w];rfl
     refine one_ (i:=9) (N:=some 47) #[true,true,true,true,true,true,true,true,true,true,false,false] rfl rfl (one_of HT_.out zk) (by decide) (fun K hK=>?_);refine Kd.R_append_step (Kd.int .i32) (w0:=w0) w0.heap.size (by rfl) (.tmp 39) (.tmp 46) 41 21 (.int .i32 0) 4 rfl Try.underlying41 info21 rfl (by decide) (by omega) u222001 x222001_2 t227 [.int .i32 t227] (fun _=>True) (fun _=>False) rfl rfl ?aP (fun _ hk=>hk.elim) ?aF ?aO ?aB ?aS ?aL ?_;(case aP=>exact rfl);(case aB=>exact (zW HB));(case aF=>exact (fun _ _=>trivial));(case aO=>exact (zR HO_222001));(case aS=>exact (below_size (zW HB)));(case aL=>have:=LMc15.out;omega);intro v229 w18 ho hb hg hat;rw [← Ny228.out] at ho;have n0_:=zo (blk_grown (zB BK220) hg (Kd.R_ne HO_222001.out BK220.out (by decide)));have n1_:=zo (blk_grown (zB BK221) hg (Kd.R_ne HO_222001.out BK221.out (by decide)));have n2_:=zo (blk_grown (zB BK222) hg (Kd.R_ne HO_222001.out BK222.out (by decide)));have n3_:=zo (blk_grown (zB BK223) hg (Kd.R_ne HO_222001.out BK223.out (by decide)));have n4_:=zo hb;have n5_:=zo ho;clear BK220;clear BK221;clear BK222;clear BK223;clear HB;clear HO_222001;have BK220:=n0_;have BK221:=n1_;have BK222:=n2_;have BK223:=n3_;have HB:=n4_;have HO230:=n5_;clear n0_ n1_ n2_ n3_ n4_ n5_;clear ho hb hg hat;obtain ⟨Ao19,co19,eo19⟩:=Kd.R_slice HO230.out;(first|subst eo19|(injection eo19 with f1_ f2_ f3_;have f4_:=f1_.symm;have f5_:=f3_.symm;clear f1_ f2_ f3_;subst f4_;subst f5_));refine hK.out _ _ ⟨(blk_cell BK221.out 0).trans rfl,(blk_cell BK221.out 1).trans rfl,(blk_cell BK220.out 0).trans rfl,(blk_cell BK220.out 1).trans rfl,(blk_cell BK220.out 2).trans rfl⟩ (fun hHeld=>?_);clear hK K;refine norm_ (a':=?_) ?_ ?_;rotate_left
     ·show Act.put _ (some 47) _=_
      simp only [Act.put,List.setIfInBounds_toArray,List.set_cons_zero,List.set_cons_succ,i64_w,i32_w];rfl
     refine pure_ (i:=10) (N:=some 48) (v:=?_) (a':=?_) #[true,true,true,true,true,true,true,true,true,true,true,false] rfl rfl (any_of HT_.out zk) (fun _ _ _ h=>h) (Or.inl ⟨by rfl,?_⟩) ?_ ?_;rotate_left
     ·intro w'
      go_simp
      with_reducible rfl
     rotate_left
     ·simp only [Act.put,List.setIfInBounds_toArray,List.set_cons_zero,List.set_cons_succ,i64_w,i32_w];rfl
     refine last_ (i:=11) (N:=none) #[true,true,true,true,true,true,true,true,true,true,true,true] rfl rfl (one_of HT_.out zk) (by decide) (fun K hK=>?_);have hs20:=zc BK221 1 (u222001) rfl;have hfs20:=blk_frozen BK221.out 1;have hns20_0:=NB220_221.out;have hns20_2:=NB222_221.out;have hns20_3:=NB223_221.out;have hms20_0:=NB221_220.out;have hms20_2:=NB221_222.out;have hms20_3:=NB221_223.out;refine skip_ (w1:=?_) (by rfl) rfl ?_ ?_;rotate_left
     ·go_simp
      rfl
     refine hK.out _ _ ?_;clear hK K;refine done_ (done_of HT_.out zk) ?_
     try go_wp2
     go_roundg k2
     case measure=>have:=HK1.out;have:=HK2.out;omega
     case rel=>exact ⟨(wrap64 (x34_2+1)),(y228),(.slice Ao19 y228.length co19),zE,H',⟨by have:=HK1.out;have:=HK2.out;omega⟩,⟨by (with_reducible repeat (first|apply Kd.R_alloc|apply Kd.R_drewN|apply Kd.R_drew));exact Kd.R_mono (Kd.R_far (p:=⟨gc1,1,none⟩) (Kd.R_types HO230.out BK221.out (by decide)) (fun _ hk=>hk.2) (.slice Ao19 y228.length co19)) (fun _ hk=>trivial)⟩,⟨zB BK220⟩,⟨zB BK221⟩,⟨zB BK222⟩,⟨zB BK223⟩,⟨zW HB⟩⟩

end Go.Proofs.Ytcnmemcclhahnaa.QT
