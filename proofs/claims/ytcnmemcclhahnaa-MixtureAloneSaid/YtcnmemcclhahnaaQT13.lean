-- Written by a program of this session, out of the seat's translation; checked by the kernel alone.
import Derived.Test.YtcnmemcclhahnaaQT0
import Derived.Test.YtcnmemcclhahnaaQT12
namespace Go.Proofs.Ytcnmemcclhahnaa.QT
open Go.RowKit Go.Proofs.YtcnmemcclhahnaaW.PrintWords Go.Proofs.YtcnmemcclhahnaaW.PrintLast Go.Proofs.YtcnmemcclhahnaaW.PrintMore
attribute [local go_sem] max2_int min2_int max_two min_two max_three min_three max_four min_four   -- for this text's walks alone
set_option linter.unusedVariables false
set_option linter.unusedSimpArgs false

def soundservicemade_Matrix.l0 : Nat→Int→Int→Int→List Int→Int→Int→List Int→Option (Int×Int×List Int×List Int)
 | 0,_,_,_,_,_,_,_=>none
 | k+1,x1,x2,x8,x1000,x381000,x381001,x381002=>if x8<(wrap64 (x1*x2)) then ((soundservicemade_Dice_Next.f x1000 256).bind fun bt381=>((some (([0,32768,23170,(-32768),131072,(-131072),1,wrap64 (bt381.1*128)] : List Int) : List Int)).bind fun y383=>((soundservicemade_Dice_Next.f bt381.2 8).bind fun bt386=>(if 0≤bt386.1 then (if bt386.1<(y383.length : Int) then (if x381002.length<17592186044416 then (soundservicemade_Matrix.l0 k x1 x2 (wrap64 (x8+1)) bt386.2 x381000 x381001 (x381002 ++ [rd y383 bt386.1])) else (none)) else (none)) else (none))))) else (some (x381000,x381001,x381002,x1000))
def soundservicemade_Matrix.f (k : Nat) (s0_0 : List Int) (a1 : Int) (a2 : Int) : Option (Int×Int×List Int×List Int):=soundservicemade_Matrix.l0 k a1 a2 0 s0_0 a1 a2 ([] : List Int)
theorem soundservicemade_Matrix.mono_l : ∀ k,(∀ y0 y1 y2 y3 y4 y5 y6,LeO (soundservicemade_Matrix.l0 k y0 y1 y2 y3 y4 y5 y6) (soundservicemade_Matrix.l0 (k+1) y0 y1 y2 y3 y4 y5 y6))
 | 0=>fun _ _ _ _ _ _ _ r h=>by simp [soundservicemade_Matrix.l0] at h
 | k+1=>by
  have ih0:=soundservicemade_Matrix.mono_l k
  ·intro y0 y1 y2 y3 y4 y5 y6;unfold soundservicemade_Matrix.l0
   repeat' first
   | (with_reducible exact ih0 _ _ _ _ _ _ _)
   | (with_reducible exact LeO.refl _)
   | (with_reducible exact LeO.none _)
   | (with_reducible refine LeO.ite ?_ ?_)
   | (with_reducible refine LeO.bind ?_ (fun _=>?_))
   | exact ih0 _ _ _ _ _ _ _
   | exact LeO.none _
   | refine LeO.ite ?_ ?_
   | refine LeO.bind ?_ (fun _=>?_)
theorem soundservicemade_Matrix.mono : ∀ a0 a1 a2 k,LeO (soundservicemade_Matrix.f k a0 a1 a2) (soundservicemade_Matrix.f (k+1) a0 a1 a2):=by
 intro a0 a1 a2 k;have ih0:=soundservicemade_Matrix.mono_l k;unfold soundservicemade_Matrix.f
 repeat' first
   | (with_reducible exact ih0 _ _ _ _ _ _ _)
   | (with_reducible exact LeO.refl _)
   | (with_reducible exact LeO.none _)
   | (with_reducible refine LeO.ite ?_ ?_)
   | (with_reducible refine LeO.bind ?_ (fun _=>?_))
   | exact ih0 _ _ _ _ _ _ _
   | exact LeO.none _
   | refine LeO.ite ?_ ?_
   | refine LeO.bind ?_ (fun _=>?_)
def soundservicemade_Matrix.T5 : Bool×List (List Nat×List Nat):=(true,[([],[]),([0],[0]),([],[]),([2],[2]),([3],[3]),([4],[4]),([],[]),([6,3],[6]),([5,7],[5,7]),([8],[8]),([9],[9]),([1,10,7],[1,10]),([0,1,2,3,4,5,6,7,8,9,10,11],[]),([12,11,11,0,1,2,3,4,5,6,7,8,9,10,11],[11,12])])
def soundservicemade_Matrix.B5 : List Nat:=[0,1,0,4,12,28,0,76,252,508,1020,2047,4095,8191]
theorem soundservicemade_Matrix.tab5 : rtab .any (opsOf Try.f44 5)=soundservicemade_Matrix.T5:=by kernel_rfl
theorem soundservicemade_Matrix.bits5 : waitsOk soundservicemade_Matrix.T5.2 soundservicemade_Matrix.B5=true:=by kernel_rfl
set_option maxHeartbeats 8000000 in
set_option maxRecDepth 100000 in
theorem soundservicemade_Matrix.calls (k : Nat) (g : Nat) (s0_0 : List Int) (a1 : Int) (a2 : Int) (r1 : Int) (r2 : Int) (r3 : List Int) (r4 : List Int) (w0 w : World) (hI : IsS71 w0 w g s0_0) (hB : Below w0.heap.size w0 w) (h : soundservicemade_Matrix.f k s0_0 a1 a2=some (r1,r2,r3,r4)) :
  Calls Try.prog 44 #[.pointer (some ⟨g,0,none⟩),.int .i64 a1,.int .i64 a2] w fun e w'=>∃ v2_ : Value,e = .returned (.agg #[.int .i64 r1,.int .i64 r2,v2_])∧Kd.R (Kd.int .i64) 3 w' w.heap.size (fun _=>True) v2_ r3∧IsS71 w0 w' g r4∧Below w0.heap.size w0 w'∧KeepBut w w' g none:=by
 have hu50:=Try.underlying50;have HGT:=zo (IsS71.lt hI);have HI0:=zo hI;have HK:=zo (KeepBut.refl w g none);have HL:=zo hB.size;clear hI;have HW0:=zo hB.size;have HB:=zo hB;clear hB;have H:=h;unfold soundservicemade_Matrix.f at H;clear h;have H':=zo H;clear H
 go_enter Try.func44,Try.ntmps44
 go_wp2_with (first|((with_reducible refine gate_dst (N:=6) rfl ?_);refine box_event ?hg (N:=6) ?hd (cs:=#[.int .i64 0,.int .i64 0,.slice none 0 0]) (t:=50) ?hr ?_;(case hd=>rfl);(case hg=>rfl);(case hr=>first|(go_simp;done)|(go_simp;rfl));intro gb379 hg w4 hbox hb;replace HB:=zo (below_step (zI HB HI0) hb);replace HI0:=zo (IsS71.below (zJ HI0) hb);have BK379:=zo hbox;have GW379:=zo ((by rw [hg];exact (keep_size (w:=w) (g:=g) (row:=none) (zK HK)) : w.heap.size≤gb379));have GE379:=zo ((Nat.le_trans HW0.out (by rw [hg];exact (keep_size (w:=w) (g:=g) (row:=none) (zK HK)) : w.heap.size≤gb379) : w0.heap.size≤gb379));have NB0_379:=zo ((by rw [hg];exact Nat.ne_of_lt (Nat.lt_of_lt_of_le HGT.out (show KeepBut w _ g none from zK HK).1) : g≠gb379));have NB379_0:=zo ((by rw [hg];exact Nat.ne_of_gt (Nat.lt_of_lt_of_le HGT.out (show KeepBut w _ g none from zK HK).1) : gb379≠g));replace HK:=zo (KeepBut.trans (zK HK) (KeepBut.of_below hb g none) (.inl rfl));clear hb hbox hg)|((with_reducible refine gate_dst (N:=7) rfl ?_);refine box_event ?hg (N:=7) ?hd (cs:=#[.int .i64 0,.int .i64 0,.slice none 0 0]) (t:=50) ?hr ?_;(case hd=>rfl);(case hg=>rfl);(case hr=>first|(go_simp;done)|(go_simp;rfl));intro gb380 hg w5 hbox hb;replace HB:=zo (below_step (zI HB HI0) hb);replace HI0:=zo (IsS71.below (zJ HI0) hb);have BK380:=zo hbox;have GW380:=zo ((by rw [hg];exact (keep_size (w:=w) (g:=g) (row:=none) (zK HK)) : w.heap.size≤gb380));have GE380:=zo ((Nat.le_trans HW0.out (by rw [hg];exact (keep_size (w:=w) (g:=g) (row:=none) (zK HK)) : w.heap.size≤gb380) : w0.heap.size≤gb380));have NB379_380:=zo (zL hg BK379);have NB380_379:=zo (zG hg BK379);replace BK379:=zo (blk_below (zB BK379) hb);have NB0_380:=zo ((by rw [hg];exact Nat.ne_of_lt (Nat.lt_of_lt_of_le HGT.out (show KeepBut w _ g none from zK HK).1) : g≠gb380));have NB380_0:=zo ((by rw [hg];exact Nat.ne_of_gt (Nat.lt_of_lt_of_le HGT.out (show KeepBut w _ g none from zK HK).1) : gb380≠g));replace HK:=zo (KeepBut.trans (zK HK) (KeepBut.of_below hb g none) (.inl rfl));clear hb hbox hg;have hnb6:=NB380_379.out;have hnc6:=NB379_380.out;have hnb7:=NB380_0.out;have hnc7:=NB0_380.out;obtain ⟨hcz8_0,hfz8_0,hcz8_1,hfz8_1,hcz8_2,hfz8_2⟩:=zn3 BK380))
 go_loopg [8] k (fun kq v8 w'=>∃ (x8_1 : Int) (x1000_1 : List Int) (x381002_1 : List Int) (u381002 : Value),v8 = .int .i64 x8_1∧Aside0 (soundservicemade_Matrix.l0 kq a1 a2 x8_1 x1000_1 a1 a2 x381002_1=some (r1,r2,r3,r4))∧Aside0 (kq≤k)∧Aside0 (Kd.R (Kd.int .i64) 3 w' w.heap.size (fun _=>True) u381002 x381002_1)∧Aside0 (w'.heap[gb379]?=some (.cells #[.int .i64 0,.int .i64 0,(.slice none 0 0)] 50 (0,0)))∧Aside0 (w'.heap[gb380]?=some (.cells #[.int .i64 a1,.int .i64 a2,u381002] 50 (0,0)))∧Aside0 (IsS71 w0 w' g x1000_1)∧Aside0 (KeepBut w w' g none)∧Aside0 (Below w0.heap.size w0 w'))
 case atStart=>exact ⟨(0),(s0_0),(([] : List Int)),(.slice none 0 0),zE,H',⟨Nat.le_refl _⟩,⟨by first|exact Kd.R_nil _ _ _ _ _|exact Kd.N_nil _ _ _ _ _|exact Kd.V_nil _ _ _ _ _|exact Kd.Q_nil _ _ _ _ _|exact Kd.S_nil _ _ _ _ _⟩,⟨zB BK379⟩,⟨zB BK380⟩,⟨zJ HI0⟩,⟨zK HK⟩,⟨zI HB HI0⟩⟩
 case round=>
  clear H'
  try clear p2
  try clear c4
  try clear c6
  try clear c7
  obtain ⟨x8_1,x1000_1,x381002_1,u381002,rfl,HA,HK1,HO_381002,BK379,BK380,HI0,HK,HB⟩:=hrel
  cases gk with
  | zero=>exact absurd HA.out (by simp [soundservicemade_Matrix.l0])
  | succ k1=>
   have H:=HA.out;clear HA;simp only [soundservicemade_Matrix.l0] at H
   by_cases c9 : x8_1<(wrap64 (a1*a2))
   rotate_left
   ·rw [if_neg c9] at H;have c9b0:=decide_eq_false c9;clear c9;simp only [Option.some.injEq,Prod.mk.injEq] at H;obtain ⟨rfl,rfl,rfl,rfl⟩:=H;have hnb27:=NB380_379.out;have hnc27:=NB379_380.out;have hnb28:=NB380_0.out;have hnc28:=NB0_380.out;obtain ⟨hcz29_0,hfz29_0,hcz29_1,hfz29_1,hcz29_2,hfz29_2⟩:=zn3 BK380;have hnb30:=NB379_0.out;have hnc30:=NB0_379.out;obtain ⟨hcz31_0,hfz31_0,hcz31_1,hfz31_1,hcz31_2,hfz31_2⟩:=zn3 BK379;obtain ⟨Ao32,co32,eo32⟩:=Kd.R_slice HO_381002.out;subst eo32
    go_wp2
    refine bodyPost_ret (results_cell_row rfl _ _ gb379 50 #[.int .i64 a1,.int .i64 a2,.slice Ao32 x381002_1.length co32] (0,0) _ rfl (zB BK379) Try.underlying50 rfl zk) rfl ?_;exact ⟨_,zX,by (with_reducible repeat (first|apply Kd.R_alloc|apply Kd.R_drewN|apply Kd.R_drew));exact Kd.R_mono (Kd.R_far (p:=⟨gb379,2,none⟩) (Kd.R_far (p:=⟨gb379,1,none⟩) (Kd.R_far (p:=⟨gb379,0,none⟩) (Kd.R_types HO_381002.out BK379.out (by decide)) (fun _ hk=>hk.2) (.int .i64 a1)) (fun _ hk=>hk.2) (.int .i64 a2)) (fun _ hk=>hk.2) (.slice Ao32 x381002_1.length co32)) (fun _ hk=>trivial),by repeat (first|(with_reducible first|exact HI0.out|apply IsS71.alloc|apply IsS71.drewN|apply IsS71.drew|apply IsS71.set_0|refine IsS71.far ?_ NB0_379.out _|refine IsS71.far ?_ NB0_380.out _)|exact HI0.out),by repeat (first|(with_reducible first|exact HB.out|apply below_alloc|apply pw_below_drewN|apply below_drew1|refine below_set ?_ (IsS71.ge HI0.out)|refine below_set ?_ GE379.out|refine below_set ?_ GE380.out)|exact HB.out),zK HK⟩
   rw [if_pos c9] at H;have c9b0:=decide_eq_true c9;clear c9;replace H:=Option.bind_eq_some_iff.mp H;obtain ⟨⟨t381,t382⟩,A100,H⟩:=H
   try dsimp only at H
   have A10:=zo A100;clear A100;obtain ⟨y383,hy383⟩ : ∃ y_ : List Int,y_=(([0,32768,23170,(-32768),131072,(-131072),1,wrap64 (t381*128)] : List Int)):=⟨_,rfl⟩;replace H : ((soundservicemade_Dice_Next.f t382 8).bind fun bt386=>(if 0≤bt386.1 then (if bt386.1<(y383.length : Int) then (if x381002_1.length<17592186044416 then (soundservicemade_Matrix.l0 k1 a1 a2 (wrap64 (x8_1+1)) bt386.2 a1 a2 (x381002_1 ++ [rd y383 bt386.1])) else (none)) else (none)) else (none)))=some (r1,r2,r3,r4):=by first|(rw [hy383];with_reducible exact H)|(have H2_:=(Option.bind_some _ _).symm.trans H;rw [hy383];with_reducible exact H2_)|(have H2_:=(Option.bind_some _ _).symm.trans H;with_reducible exact H2_)|with_reducible exact H|(rw [hy383];exact H)|exact H
   have Ny383:=zo hy383;clear hy383;replace H:=Option.bind_eq_some_iff.mp H;obtain ⟨⟨t386,t387⟩,A110,H⟩:=H
   try dsimp only at H
   have A11:=zo A110;clear A110
   by_cases c12 : 0≤t386
   rotate_left
   ·rw [if_neg c12] at H;exact absurd H (by simp)
   rw [if_pos c12] at H;have c12b0:=decide_eq_true c12;clear c12
   by_cases c13 : t386<(y383.length : Int)
   rotate_left
   ·rw [if_neg c13] at H;exact absurd H (by simp)
   rw [if_pos c13] at H;have c13b0:=decide_eq_true c13;clear c13
   by_cases c14 : x381002_1.length<17592186044416
   rotate_left
   ·rw [if_neg c14] at H;exact absurd H (by simp)
   rw [if_pos c14] at H;have LMc14:=zo c14;clear c14;obtain ⟨y389,hy389⟩ : ∃ y_ : List Int,y_=(x381002_1 ++ [rd y383 t386]):=⟨_,rfl⟩;replace H : (soundservicemade_Matrix.l0 k1 a1 a2 (wrap64 (x8_1+1)) t387 a1 a2 y389)=some (r1,r2,r3,r4):=by first|(rw [hy389];with_reducible exact H)|(have H2_:=(Option.bind_some _ _).symm.trans H;rw [hy389];with_reducible exact H2_)|(have H2_:=(Option.bind_some _ _).symm.trans H;with_reducible exact H2_)|with_reducible exact H|(rw [hy389];exact H)|exact H
   have Ny389:=zo hy389;clear hy389;have H':=zo H;clear H;obtain ⟨Ao15,co15,eo15⟩:=Kd.R_slice HO_381002.out;subst eo15
   try go_wp2
   have pi388 : (0≤(t386 : Int))=True:=eq_true (zD);have qi388 : (t386<(y383.length : Int))=True:=eq_true (zD);have n0_:=zo (Kd.R_drew HO_381002.out);have n1_:=zo (blk_drew BK379.out);have n2_:=zo (blk_drew BK380.out);have n3_:=zo (IsS71.drew HI0.out);have n4_:=zo (keep_drew HK.out);have n5_:=zo (below_drew1 HB.out);clear HO_381002;clear BK379;clear BK380;clear HI0;clear HK;clear HB;have HO_381002:=n0_;have BK379:=n1_;have BK380:=n2_;have HI0:=n3_;have HK:=n4_;have HB:=n5_;clear n0_ n1_ n2_ n3_ n4_ n5_;refine start_ (n:=14) (S:=fun w'=>w'.cell? ⟨gb380,0,none⟩=some (.int .i64 a1)∧w'.cell? ⟨gb380,1,none⟩=some (.int .i64 a2)∧w'.cell? ⟨gb380,2,none⟩=some (.slice Ao15 x381002_1.length co15)) (ds:=[13]) #[false,false,false,false,false,false,false,false,false,false,false,false,false,false] zk rfl rfl ⟨(blk_cell BK380.out 0).trans rfl,(blk_cell BK380.out 1).trans rfl,(blk_cell BK380.out 2).trans rfl⟩ (fun hHeld=>?_);refine with_tabW soundservicemade_Matrix.tab5 soundservicemade_Matrix.bits5 (fun HT_ HW_=>?_);generalize wr.drew=w16 at HO_381002 BK379 BK380 HI0 HK HB hHeld ⊢;refine pure_ (i:=0) (N:=some 19) (v:=?_) (a':=?_) #[true,false,false,false,false,false,false,false,false,false,false,false,false,false] rfl rfl (any_of HT_.out zk) (fun _ _ _ h=>h) (Or.inl ⟨by rfl,?_⟩) ?_ ?_;rotate_left
   ·intro w'
    go_simp
    with_reducible rfl
   rotate_left
   ·simp only [Act.put,List.setIfInBounds_toArray,List.set_cons_zero,List.set_cons_succ,i64_w,i32_w];rfl
   refine pure_ (i:=2) (N:=some 21) (v:=?_) (a':=?_) #[true,false,true,false,false,false,false,false,false,false,false,false,false,false] rfl rfl (any_of HT_.out zk) (fun _ _ _ h=>h) (Or.inl ⟨by rfl,?_⟩) ?_ ?_;rotate_left
   ·intro w'
    go_simp
    with_reducible rfl
   rotate_left
   ·simp only [Act.put,List.setIfInBounds_toArray,List.set_cons_zero,List.set_cons_succ,i64_w,i32_w];rfl
   refine pure_ (i:=6) (N:=some 25) (v:=?_) (a':=?_) #[true,false,true,false,false,false,true,false,false,false,false,false,false,false] rfl rfl (any_of HT_.out zk) (fun _ _ _ h=>h) (Or.inl ⟨by rfl,?_⟩) ?_ ?_;rotate_left
   ·intro w'
    go_simp
    with_reducible rfl
   rotate_left
   ·simp only [Act.put,List.setIfInBounds_toArray,List.set_cons_zero,List.set_cons_succ,i64_w,i32_w];rfl
   refine take_ (i:=1) (N:=some 20) (v:=?_) (a':=?_) #[true,true,true,false,false,false,true,false,false,false,false,false,false,false] rfl rfl (take_ofW HT_.out HW_.out zk) (fun _ _ _ h=>h) (Or.inl ⟨by rfl,?_⟩) hHeld ?_ ?_;rotate_left
   ·rintro w' ⟨s0,s1,s2⟩
    go_simp
    with_reducible rfl
   rotate_left
   ·simp only [Act.put,List.setIfInBounds_toArray,List.set_cons_zero,List.set_cons_succ,i64_w,i32_w];rfl
   refine one_ (i:=3) (N:=some 22) #[true,true,true,true,false,false,true,false,false,false,false,false,false,false] rfl rfl (one_of HT_.out zk) (by decide) (fun K hK=>?_);refine goes_ Try.func11 zk rfl #[.pointer (some ⟨g,0,none⟩),.int .i64 256] (by rfl) rfl rfl zA ?_
   with_reducible refine (soundservicemade_Dice_Next.calls g x1000_1 256 t381 t382 w0 _ ?side1 ?side2 A10.out).mono ?_
   (case side1=>exact zJ HI0);(case side2=>exact zI HB HI0);rintro e w17 ⟨rfl,hi,hb,hk⟩;refine ⟨_,rfl,?_⟩;have n0_:=zo (Kd.R_mono (Kd.R_keep (IsS71.apart (show IsS71 w0 _ g x1000_1 from zJ HI0) (zR HO_381002) (by decide)) hk (fun _ h=>h.2)) (fun _ h=>h.1));have n1_:=zo (KeepBut.blk hk (g':=gb379) (o:=.cells #[.int .i64 0,.int .i64 0,.slice none 0 0] 50 (0,0)) (zB BK379) NB379_0.out (by simp));have n2_:=zo (KeepBut.blk hk (g':=gb380) (o:=.cells #[.int .i64 a1,.int .i64 a2,.slice Ao15 x381002_1.length co15] 50 (0,0)) (zB BK380) NB380_0.out (by simp));have n3_:=zo (KeepBut.trans (zK HK) hk (.inl rfl));have n4_:=zo hb;have n5_:=zo hi;clear HO_381002;clear BK379;clear BK380;clear HK;clear HB;clear HI0;have HO_381002:=n0_;have BK379:=n1_;have BK380:=n2_;have HK:=n3_;have HB:=n4_;have HI0:=n5_;clear n0_ n1_ n2_ n3_ n4_ n5_;(try clear hb);(try clear hb2);(try clear hk);(try clear hi);(try clear hgw);refine hK.out _ _ ⟨(blk_cell BK380.out 0).trans rfl,(blk_cell BK380.out 1).trans rfl,(blk_cell BK380.out 2).trans rfl⟩ (fun hHeld=>?_);clear hK K;refine norm_ (a':=?_) ?_ ?_;rotate_left
   ·show Act.put _ (some 22) _=_
    simp only [Act.put,List.setIfInBounds_toArray,List.set_cons_zero,List.set_cons_succ,i64_w,i32_w];rfl
   refine pure_ (i:=4) (N:=some 23) (v:=?_) (a':=?_) #[true,true,true,true,true,false,true,false,false,false,false,false,false,false] rfl rfl (any_of HT_.out zk) (fun _ _ _ h=>h) (Or.inl ⟨by rfl,?_⟩) ?_ ?_;rotate_left
   ·intro w'
    go_simp
    with_reducible rfl
   rotate_left
   ·simp only [Act.put,List.setIfInBounds_toArray,List.set_cons_zero,List.set_cons_succ,i64_w,i32_w];rfl
   refine join_ (σ:=Value×Addr) 6 #[true,true,true,true,true,true,true,true,false,false,false,false,false,false] (fun s_=>[(24,s_.1),(26,.int .i64 t386)]) (fun s_ w'=>(w'.cell? ⟨gb380,0,none⟩=some (.int .i64 a1)∧w'.cell? ⟨gb380,1,none⟩=some (.int .i64 a2)∧w'.cell? ⟨gb380,2,none⟩=some (.slice Ao15 x381002_1.length co15))∧(Kd.R (Kd.int .i64) 3 w' w.heap.size (fun k_=>some k_≠(.slice Ao15 x381002_1.length co15 : Value).ownBlock) s_.1 y383)∧(Kd.R (Kd.int .i64) 3 w' w.heap.size (fun k_=>some k_≠(s_.1 : Value).ownBlock) (.slice Ao15 x381002_1.length co15) x381002_1)∧(∃ c_,(s_.1 : Value) = .slice (some s_.2) y383.length c_)∧(w'.heap[gb379]?=some (.cells #[.int .i64 0,.int .i64 0,.slice none 0 0] 50 (0,0)))∧(w'.heap[gb380]?=some (.cells #[.int .i64 a1,.int .i64 a2,.slice Ao15 x381002_1.length co15] 50 (0,0)))∧(IsS71 w0 w' g t387)∧(KeepBut w w' g none)∧(Below w0.heap.size w0 w')) ?_ ?_;rotate_left
   ·intro hCont;refine two_ (i:=5) (j:=7) (Ni:=some 24) (Nj:=some 26) #[true,true,true,true,true,true,true,false,false,false,false,false,false,false] #[true,true,true,true,true,false,true,true,false,false,false,false,false,false] rfl rfl rfl rfl (two_of HT_.out zk) (by decide) (by decide) (fun K hK=>?_) (fun K hK=>?_)
    ·skip
     refine Kd.R_lit_step (Kd.int .i64) _ 3 ?hg (N:=24) ?hd (xs:=([0,32768,23170,(-32768),131072,(-131072),1,wrap64 (t381*128)] : List Int)) (inner:=[.int .i64 0,.int .i64 32768,.int .i64 23170,.int .i64 (-32768),.int .i64 131072,.int .i64 (-131072),.int .i64 1,.int .i64 (wrap64 (t381*128))]) (ok:=fun _=>True) (okp:=fun _=>True) ?hr ?hp (fun _ hk=>hk) trivial (Below.refl _ _) (Nat.le_refl _) (by simp) ?_;(case hd=>rfl);(case hg=>rfl);(case hr=>first|(go_simp;done)|(go_simp;rfl));(case hp=>exact (Reps.one (show Kd.M (Kd.int .i64) _ _ _ 0 [.int .i64 0] from rfl) (Reps.one (show Kd.M (Kd.int .i64) _ _ _ 32768 [.int .i64 32768] from rfl) (Reps.one (show Kd.M (Kd.int .i64) _ _ _ 23170 [.int .i64 23170] from rfl) (Reps.one (show Kd.M (Kd.int .i64) _ _ _ (-32768) [.int .i64 (-32768)] from rfl) (Reps.one (show Kd.M (Kd.int .i64) _ _ _ 131072 [.int .i64 131072] from rfl) (Reps.one (show Kd.M (Kd.int .i64) _ _ _ (-131072) [.int .i64 (-131072)] from rfl) (Reps.one (show Kd.M (Kd.int .i64) _ _ _ 1 [.int .i64 1] from rfl) (Reps.one (show Kd.M (Kd.int .i64) _ _ _ (wrap64 (t381*128)) [.int .i64 (wrap64 (t381*128))] from rfl) (Reps.none _ _))))))))));intro v384 w18 ho19 hb hg_ hnew_;clear hg_ hnew_;(first|rw [← Ny383.out] at ho19|(simp only [Int.reduceToNat] at ho19;rw [← Ny383.out] at ho19));have n0_:=zo (Kd.R_elder' (zR HO_381002) (Kd.R_base ho19) hb);have n1_:=zo (Kd.R_lower (Kd.R_new' ho19 (Kd.R_lt (zR HO_381002))) (keep_size (w:=w) (g:=g) (row:=none) (zK HK)));have n2_:=zo (blk_below (zB BK379) hb);have n3_:=zo (blk_below (zB BK380) hb);have n4_:=zo (IsS71.below (zJ HI0) hb);have n5_:=zo (KeepBut.trans (zK HK) (KeepBut.of_below hb g none) (.inl rfl));have n6_:=zo (below_step (zI HB HI0) hb);clear HO_381002;clear BK379;clear BK380;clear HI0;clear HK;clear HB;have HO_381002:=n0_;have HO385:=n1_;have BK379:=n2_;have BK380:=n3_;have HI0:=n4_;have HK:=n5_;have HB:=n6_;clear n0_ n1_ n2_ n3_ n4_ n5_ n6_;clear hb ho19;obtain ⟨Ao20,co20,eo20⟩:=Kd.R_slice HO385.out;subst eo20;obtain ⟨ado20,fo20,_⟩:=Kd.at_int (Kd.R_reads' HO385.out).2.2 0 (by decide) (by rw [Ny383.out];simp)
     cases fo20
     refine hK.out _ _ ⟨(blk_cell BK380.out 0).trans rfl,(blk_cell BK380.out 1).trans rfl,(blk_cell BK380.out 2).trans rfl⟩ (fun hHeld=>?_);clear hK K;refine norm_ (a':=?_) ?_ ?_;rotate_left
     ·show Act.put _ (some 24) _=_
      simp only [Act.put,List.setIfInBounds_toArray,List.set_cons_zero,List.set_cons_succ,i64_w,i32_w];rfl
     refine one_ (i:=7) (N:=some 26) #[true,true,true,true,true,true,true,true,false,false,false,false,false,false] rfl rfl (one_of HT_.out zk) (by decide) (fun K hK=>?_);refine goes_ Try.func11 zk rfl #[.pointer (some ⟨g,0,none⟩),.int .i64 8] (by rfl) rfl rfl zA ?_
     with_reducible refine (soundservicemade_Dice_Next.calls g t382 8 t386 t387 w0 _ ?side1 ?side2 A11.out).mono ?_
     (case side1=>exact zJ HI0);(case side2=>exact zI HB HI0);rintro e w21 ⟨rfl,hi,hb,hk⟩;refine ⟨_,rfl,?_⟩;have n0_:=zo (Kd.R_mono (Kd.R_keep (IsS71.apart (show IsS71 w0 _ g t382 from zJ HI0) (zR HO_381002) (by decide)) hk (fun _ h=>h.2)) (fun _ h=>h.1));have n1_:=zo (KeepBut.blk hk (g':=gb379) (o:=.cells #[.int .i64 0,.int .i64 0,.slice none 0 0] 50 (0,0)) (zB BK379) NB379_0.out (by simp));have n2_:=zo (KeepBut.blk hk (g':=gb380) (o:=.cells #[.int .i64 a1,.int .i64 a2,.slice Ao15 x381002_1.length co15] 50 (0,0)) (zB BK380) NB380_0.out (by simp));have n3_:=zo (Kd.R_mono (Kd.R_keep (IsS71.apart (show IsS71 w0 _ g t382 from zJ HI0) (zR HO385) (by decide)) hk (fun _ h=>h.2)) (fun _ h=>h.1));have n4_:=zo (KeepBut.trans (zK HK) hk (.inl rfl));have n5_:=zo hb;have n6_:=zo hi;clear HO_381002;clear BK379;clear BK380;clear HO385;clear HK;clear HB;clear HI0;have HO_381002:=n0_;have BK379:=n1_;have BK380:=n2_;have HO385:=n3_;have HK:=n4_;have HB:=n5_;have HI0:=n6_;clear n0_ n1_ n2_ n3_ n4_ n5_ n6_;(try clear hb);(try clear hb2);(try clear hk);(try clear hi);(try clear hgw);refine hK.out _ _ ⟨(blk_cell BK380.out 0).trans rfl,(blk_cell BK380.out 1).trans rfl,(blk_cell BK380.out 2).trans rfl⟩ (fun hHeld=>?_);clear hK K;refine norm_ (a':=?_) ?_ ?_;rotate_left
     ·show Act.put _ (some 26) _=_
      simp only [Act.put,List.setIfInBounds_toArray,List.set_cons_zero,List.set_cons_succ,i64_w,i32_w];rfl
     exact norm_ (by simp only [putAll,Act.put,List.setIfInBounds_toArray,List.set_cons_zero,List.set_cons_succ]) (hCont (.slice (some ado20) y383.length co20,ado20) _ ⟨hHeld,(by (with_reducible repeat (first|apply Kd.R_alloc|apply Kd.R_drewN|apply Kd.R_drew));exact Kd.R_mono HO385.out (fun _ hk=>hk.2)),(by (with_reducible repeat (first|apply Kd.R_alloc|apply Kd.R_drewN|apply Kd.R_drew));exact Kd.R_mono HO_381002.out (fun _ hk=>hk.2)),⟨_,rfl⟩,(zB BK379),(zB BK380),(zJ HI0),(zK HK),(zI HB HI0)⟩)
    ·skip
     refine goes_ Try.func11 zk rfl #[.pointer (some ⟨g,0,none⟩),.int .i64 8] (by rfl) rfl rfl zA ?_
     with_reducible refine (soundservicemade_Dice_Next.calls g t382 8 t386 t387 w0 _ ?side1 ?side2 A11.out).mono ?_
     (case side1=>exact zJ HI0);(case side2=>exact zI HB HI0);rintro e w18 ⟨rfl,hi,hb,hk⟩;refine ⟨_,rfl,?_⟩;have n0_:=zo (Kd.R_mono (Kd.R_keep (IsS71.apart (show IsS71 w0 _ g t382 from zJ HI0) (zR HO_381002) (by decide)) hk (fun _ h=>h.2)) (fun _ h=>h.1));have n1_:=zo (KeepBut.blk hk (g':=gb379) (o:=.cells #[.int .i64 0,.int .i64 0,.slice none 0 0] 50 (0,0)) (zB BK379) NB379_0.out (by simp));have n2_:=zo (KeepBut.blk hk (g':=gb380) (o:=.cells #[.int .i64 a1,.int .i64 a2,.slice Ao15 x381002_1.length co15] 50 (0,0)) (zB BK380) NB380_0.out (by simp));have n3_:=zo (KeepBut.trans (zK HK) hk (.inl rfl));have n4_:=zo hb;have n5_:=zo hi;clear HO_381002;clear BK379;clear BK380;clear HK;clear HB;clear HI0;have HO_381002:=n0_;have BK379:=n1_;have BK380:=n2_;have HK:=n3_;have HB:=n4_;have HI0:=n5_;clear n0_ n1_ n2_ n3_ n4_ n5_;(try clear hb);(try clear hb2);(try clear hk);(try clear hi);(try clear hgw);refine hK.out _ _ ⟨(blk_cell BK380.out 0).trans rfl,(blk_cell BK380.out 1).trans rfl,(blk_cell BK380.out 2).trans rfl⟩ (fun hHeld=>?_);clear hK K;refine norm_ (a':=?_) ?_ ?_;rotate_left
     ·show Act.put _ (some 26) _=_
      simp only [Act.put,List.setIfInBounds_toArray,List.set_cons_zero,List.set_cons_succ,i64_w,i32_w];rfl
     refine one_ (i:=5) (N:=some 24) #[true,true,true,true,true,true,true,true,false,false,false,false,false,false] rfl rfl (one_of HT_.out zk) (by decide) (fun K hK=>?_);refine Kd.R_lit_step (Kd.int .i64) _ 3 ?hg (N:=24) ?hd (xs:=([0,32768,23170,(-32768),131072,(-131072),1,wrap64 (t381*128)] : List Int)) (inner:=[.int .i64 0,.int .i64 32768,.int .i64 23170,.int .i64 (-32768),.int .i64 131072,.int .i64 (-131072),.int .i64 1,.int .i64 (wrap64 (t381*128))]) (ok:=fun _=>True) (okp:=fun _=>True) ?hr ?hp (fun _ hk=>hk) trivial (Below.refl _ _) (Nat.le_refl _) (by simp) ?_;(case hd=>rfl);(case hg=>rfl);(case hr=>first|(go_simp;done)|(go_simp;rfl));(case hp=>exact (Reps.one (show Kd.M (Kd.int .i64) _ _ _ 0 [.int .i64 0] from rfl) (Reps.one (show Kd.M (Kd.int .i64) _ _ _ 32768 [.int .i64 32768] from rfl) (Reps.one (show Kd.M (Kd.int .i64) _ _ _ 23170 [.int .i64 23170] from rfl) (Reps.one (show Kd.M (Kd.int .i64) _ _ _ (-32768) [.int .i64 (-32768)] from rfl) (Reps.one (show Kd.M (Kd.int .i64) _ _ _ 131072 [.int .i64 131072] from rfl) (Reps.one (show Kd.M (Kd.int .i64) _ _ _ (-131072) [.int .i64 (-131072)] from rfl) (Reps.one (show Kd.M (Kd.int .i64) _ _ _ 1 [.int .i64 1] from rfl) (Reps.one (show Kd.M (Kd.int .i64) _ _ _ (wrap64 (t381*128)) [.int .i64 (wrap64 (t381*128))] from rfl) (Reps.none _ _))))))))));intro v384 w19 ho20 hb hg_ hnew_;clear hg_ hnew_;(first|rw [← Ny383.out] at ho20|(simp only [Int.reduceToNat] at ho20;rw [← Ny383.out] at ho20));have n0_:=zo (Kd.R_elder' (zR HO_381002) (Kd.R_base ho20) hb);have n1_:=zo (Kd.R_lower (Kd.R_new' ho20 (Kd.R_lt (zR HO_381002))) (keep_size (w:=w) (g:=g) (row:=none) (zK HK)));have n2_:=zo (blk_below (zB BK379) hb);have n3_:=zo (blk_below (zB BK380) hb);have n4_:=zo (IsS71.below (zJ HI0) hb);have n5_:=zo (KeepBut.trans (zK HK) (KeepBut.of_below hb g none) (.inl rfl));have n6_:=zo (below_step (zI HB HI0) hb);clear HO_381002;clear BK379;clear BK380;clear HI0;clear HK;clear HB;have HO_381002:=n0_;have HO385:=n1_;have BK379:=n2_;have BK380:=n3_;have HI0:=n4_;have HK:=n5_;have HB:=n6_;clear n0_ n1_ n2_ n3_ n4_ n5_ n6_;clear hb ho20;obtain ⟨Ao21,co21,eo21⟩:=Kd.R_slice HO385.out;subst eo21;obtain ⟨ado21,fo21,_⟩:=Kd.at_int (Kd.R_reads' HO385.out).2.2 0 (by decide) (by rw [Ny383.out];simp)
     cases fo21
     refine hK.out _ _ ⟨(blk_cell BK380.out 0).trans rfl,(blk_cell BK380.out 1).trans rfl,(blk_cell BK380.out 2).trans rfl⟩ (fun hHeld=>?_);clear hK K;refine norm_ (a':=?_) ?_ ?_;rotate_left
     ·show Act.put _ (some 24) _=_
      simp only [Act.put,List.setIfInBounds_toArray,List.set_cons_zero,List.set_cons_succ,i64_w,i32_w];rfl
     exact norm_ (by simp only [putAll,Act.put,List.setIfInBounds_toArray,List.set_cons_zero,List.set_cons_succ]) (hCont (.slice (some ado21) y383.length co21,ado21) _ ⟨hHeld,(by (with_reducible repeat (first|apply Kd.R_alloc|apply Kd.R_drewN|apply Kd.R_drew));exact Kd.R_mono HO385.out (fun _ hk=>hk.2)),(by (with_reducible repeat (first|apply Kd.R_alloc|apply Kd.R_drewN|apply Kd.R_drew));exact Kd.R_mono HO_381002.out (fun _ hk=>hk.2)),⟨_,rfl⟩,(zB BK379),(zB BK380),(zJ HI0),(zK HK),(zI HB HI0)⟩)
   rintro ⟨v384,adz_v384⟩ w22 ⟨hS_,h0_,h1_,h2_,h3_,h4_,h5_,h6_,h7_⟩;have n0_ : Aside0 (Kd.R (Kd.int .i64) 3 w22 w.heap.size (fun k_=>some k_≠(.slice Ao15 x381002_1.length co15 : Value).ownBlock) v384 y383):=⟨h0_⟩;have n1_ : Aside0 (Kd.R (Kd.int .i64) 3 w22 w.heap.size (fun k_=>some k_≠(v384 : Value).ownBlock) (.slice Ao15 x381002_1.length co15) x381002_1):=⟨h1_⟩;have n2_ : Aside0 (∃ c_,(v384 : Value) = .slice (some adz_v384) y383.length c_):=⟨h2_⟩;have n3_ : Aside0 (w22.heap[gb379]?=some (.cells #[.int .i64 0,.int .i64 0,.slice none 0 0] 50 (0,0))):=⟨h3_⟩;have n4_ : Aside0 (w22.heap[gb380]?=some (.cells #[.int .i64 a1,.int .i64 a2,.slice Ao15 x381002_1.length co15] 50 (0,0))):=⟨h4_⟩;have n5_ : Aside0 (IsS71 w0 w22 g t387):=⟨h5_⟩;have n6_ : Aside0 (KeepBut w w22 g none):=⟨h6_⟩;have n7_ : Aside0 (Below w0.heap.size w0 w22):=⟨h7_⟩;clear HO_381002;clear BK379;clear BK380;clear HI0;clear HK;clear HB;clear h0_ h1_ h2_ h3_ h4_ h5_ h6_ h7_;have HO385:=n0_;have HO_381002:=n1_;have HA_HO385:=n2_;have BK379:=n3_;have BK380:=n4_;have HI0:=n5_;have HK:=n6_;have HB:=n7_;clear n0_ n1_ n2_ n3_ n4_ n5_ n6_ n7_;have hHeld : w22.cell? ⟨gb380,0,none⟩=some (.int .i64 a1)∧w22.cell? ⟨gb380,1,none⟩=some (.int .i64 a2)∧w22.cell? ⟨gb380,2,none⟩=some (.slice Ao15 x381002_1.length co15):=hS_;obtain ⟨co23,eo23⟩:=HA_HO385.out;clear HA_HO385;subst eo23;refine norm_ (a':=?_) ?_ ?_;rotate_left
   ·simp only [putAll,Act.put,List.setIfInBounds_toArray,List.set_cons_zero,List.set_cons_succ];rfl
   refine pure_ (i:=8) (N:=some 27) (v:=?_) (a':=?_) #[true,true,true,true,true,true,true,true,true,false,false,false,false,false] rfl rfl (any_of HT_.out zk) (fun _ _ _ h=>h) (Or.inl ⟨by rfl,?_⟩) ?_ ?_;rotate_left
   ·intro w'
    go_simp
    with_reducible rfl
   rotate_left
   ·simp only [Act.put,List.setIfInBounds_toArray,List.set_cons_zero,List.set_cons_succ,i64_w,i32_w];rfl
   refine one_ (i:=9) (N:=some 28) #[true,true,true,true,true,true,true,true,true,true,false,false,false,false] rfl rfl (one_of HT_.out zk) (by decide) (fun K hK=>?_);(have p388 : 0≤(t386 : Int):=zD;have q388 : t386<(y383.length : Int):=zD;obtain ⟨ad388,e388,hx388_0⟩:=Kd.at_int (Kd.R_reads' HO385.out).2.2 t386 p388 q388;obtain rfl : adz_v384=ad388:=(by injection e388));refine value_ (w1:=?_) (v:=?_) (by rfl) rfl ?_ ?_;rotate_left 2
   ·go_simp
    constructor
    ·rfl
    ·rfl
   clear hx388_0;refine hK.out _ _ ⟨(blk_cell BK380.out 0).trans rfl,(blk_cell BK380.out 1).trans rfl,(blk_cell BK380.out 2).trans rfl⟩ (fun hHeld=>?_);clear hK K;refine norm_ (a':=?_) ?_ ?_;rotate_left
   ·show Act.put _ (some 28) _=_
    simp only [Act.put,List.setIfInBounds_toArray,List.set_cons_zero,List.set_cons_succ,i64_w,i32_w];rfl
   refine one_ (i:=10) (N:=some 29) #[true,true,true,true,true,true,true,true,true,true,true,false,false,false] rfl rfl (one_of HT_.out zk) (by decide) (fun K hK=>?_);refine value_ (w1:=?_) (v:=?_) (by rfl) rfl ?_ ?_;rotate_left 2
   ·go_simp
    constructor
    ·rfl
    ·rfl
   refine hK.out _ _ ⟨(blk_cell (blk_alloc BK380.out _) 0).trans rfl,(blk_cell (blk_alloc BK380.out _) 1).trans rfl,(blk_cell (blk_alloc BK380.out _) 2).trans rfl⟩ (fun hHeld=>?_);clear hK K;refine norm_ (a':=?_) ?_ ?_;rotate_left
   ·show Act.put _ (some 29) _=_
    simp only [Act.put,List.setIfInBounds_toArray,List.set_cons_zero,List.set_cons_succ,i64_w,i32_w];rfl
   refine one_ (i:=11) (N:=some 30) #[true,true,true,true,true,true,true,true,true,true,true,true,false,false] rfl rfl (one_of HT_.out zk) (by decide) (fun K hK=>?_);refine Kd.R_append_step (Kd.int .i64) w.heap.size (by rfl) (.tmp 20) (.tmp 29) 48 3 (.int .i64 0) 8 rfl Try.underlying48 info3 rfl (by decide) (by omega) (.slice Ao15 x381002_1.length co15) x381002_1 (rd y383 t386) [.int .i64 (rd y383 t386)] (fun k_=>some k_≠(.slice (some adz_v384) y383.length co23 : Value).ownBlock) (fun _=>False) rfl rfl ?aP (fun _ hk=>hk.elim) ?aF ?aO (Below.refl _ _) ?aS ?aL ?_;(case aP=>exact rfl);(case aF=>exact (fun k_ hk=>Kd.fresh' (Kd.R_lt (zR HO385)) k_ hk));(case aO=>exact (zR HO_381002));(case aS=>exact (keep_size (w:=w) (g:=g) (row:=none) (zK HK)));(case aL=>have:=LMc14.out;omega);intro v390 w24 ho hb hg hat;rw [← Ny389.out] at ho;have n0_:=zo (blk_grown (zB BK379) hg (Kd.R_ne HO_381002.out BK379.out (by decide)));have n1_:=zo (blk_grown (zB BK380) hg (Kd.R_ne HO_381002.out BK380.out (by decide)));have n2_:=zo (IsS71.grown (zJ HI0) hg (IsS71.own_ne HI0.out HO_381002.out (by decide)));have n3_:=zo (Kd.R_after (ok:=(fun _=>True)) (by (with_reducible repeat (first|apply Kd.R_alloc|apply Kd.R_drewN|apply Kd.R_drew));exact Kd.R_mono HO385.out (fun _ hk=>⟨trivial,hk⟩)) hg hat);have n4_:=zo (below_weaken (zI HB HI0) HL.out hb);have n5_:=zo (KeepBut.trans (zK HK) (KeepBut.of_grown hg g) (Kd.R_base2 HO_381002.out));have n6_:=zo ho;clear BK379;clear BK380;clear HI0;clear HO385;clear HB;clear HK;clear HO_381002;have BK379:=n0_;have BK380:=n1_;have HI0:=n2_;have HO385:=n3_;have HB:=n4_;have HK:=n5_;have HO391:=n6_;clear n0_ n1_ n2_ n3_ n4_ n5_ n6_;clear ho hb hg hat;obtain ⟨Ao25,co25,eo25⟩:=Kd.R_slice HO391.out;(first|subst eo25|(injection eo25 with f1_ f2_ f3_;have f4_:=f1_.symm;have f5_:=f3_.symm;clear f1_ f2_ f3_;subst f4_;subst f5_));refine hK.out _ _ ⟨(blk_cell BK380.out 0).trans rfl,(blk_cell BK380.out 1).trans rfl,(blk_cell BK380.out 2).trans rfl⟩ (fun hHeld=>?_);clear hK K;refine norm_ (a':=?_) ?_ ?_;rotate_left
   ·show Act.put _ (some 30) _=_
    simp only [Act.put,List.setIfInBounds_toArray,List.set_cons_zero,List.set_cons_succ,i64_w,i32_w];rfl
   refine pure_ (i:=12) (N:=some 31) (v:=?_) (a':=?_) #[true,true,true,true,true,true,true,true,true,true,true,true,true,false] rfl rfl (any_of HT_.out zk) (fun _ _ _ h=>h) (Or.inl ⟨by rfl,?_⟩) ?_ ?_;rotate_left
   ·intro w'
    go_simp
    with_reducible rfl
   rotate_left
   ·simp only [Act.put,List.setIfInBounds_toArray,List.set_cons_zero,List.set_cons_succ,i64_w,i32_w];rfl
   refine last_ (i:=13) (N:=none) #[true,true,true,true,true,true,true,true,true,true,true,true,true,true] rfl rfl (one_of HT_.out zk) (by decide) (fun K hK=>?_);have hs26:=zc BK380 2 (.slice Ao15 x381002_1.length co15) rfl;have hfs26:=blk_frozen BK380.out 2;have hns26_0:=NB379_380.out;have hms26_0:=NB380_379.out;refine skip_ (w1:=?_) (by rfl) rfl ?_ ?_;rotate_left
   ·go_simp
    rfl
   refine hK.out _ _ ?_;clear hK K;refine done_ (done_of HT_.out zk) ?_
   try go_wp2
   go_roundg k1
   case measure=>have:=HK1.out;omega
   case rel=>exact ⟨(wrap64 (x8_1+1)),(t387),(y389),(.slice Ao25 y389.length co25),zE,H',⟨by have:=HK1.out;omega⟩,⟨by (with_reducible repeat (first|apply Kd.R_alloc|apply Kd.R_drewN|apply Kd.R_drew));exact Kd.R_mono (Kd.R_far (p:=⟨gb380,2,none⟩) (Kd.R_types HO391.out BK380.out (by decide)) (fun _ hk=>hk.2) (.slice Ao25 y389.length co25)) (fun _ hk=>trivial)⟩,⟨zB BK379⟩,⟨zB BK380⟩,⟨zJ HI0⟩,⟨zK HK⟩,⟨zI HB HI0⟩⟩

end Go.Proofs.Ytcnmemcclhahnaa.QT
