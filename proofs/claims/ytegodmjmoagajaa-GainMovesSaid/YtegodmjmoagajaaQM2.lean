-- Written by a program of this session, out of the seat's translation; checked by the kernel alone.
import Derived.Test.YtegodmjmoagajaaQM0
import Derived.Test.YtegodmjmoagajaaQM1
namespace Go.Proofs.Ytegodmjmoagajaa.QM
open Go.RowKit Go.Proofs.YtegodmjmoagajaaW.PrintWords Go.Proofs.YtegodmjmoagajaaW.PrintLast Go.Proofs.YtegodmjmoagajaaW.PrintMore
attribute [local go_sem] max2_int min2_int max_two min_two max_three min_three max_four min_four   -- for this text's walks alone
set_option linter.unusedVariables false
set_option linter.unusedSimpArgs false

/-! ### soundservicemade_Ramp: function 20 -/
def soundservicemade_Ramp.f (s0_0 : List Int) : Option (Int×Int×Int×Int×List Int):=(some (([65536,0,1,262144,32768,65535,70000] : List Int) : List Int)).bind fun y123=>((soundservicemade_Dice_Next.f s0_0 7).bind fun bt126=>(if 0≤bt126.1 then (if bt126.1<(y123.length : Int) then ((soundservicemade_Dice_Next.f bt126.2 7).bind fun bt129=>(if 0≤bt129.1 then (if bt129.1<(y123.length : Int) then ((soundservicemade_Dice_Next.f bt129.2 12).bind fun bt132=>((soundservicemade_Dice_Next.f bt132.2 (wrap64 (bt132.1+1))).bind fun bt135=>(some (rd y123 bt126.1,rd y123 bt129.1,bt132.1,bt135.1,bt135.2)))) else (none)) else (none))) else (none)) else (none)))
def soundservicemade_Ramp.T2 : Bool×List (List Nat×List Nat):=(true,[([],[]),([],[]),([1],[1]),([0,2],[0,2]),([3],[3]),([],[]),([],[]),([6,2],[6]),([5,7],[5,7]),([8],[8]),([],[]),([10,7],[10]),([4,9,11],[4,9,11]),([],[]),([13,12,11,0,1,2,3,4,5,6,7,8,9,10,11,12,13],[12,13])])
def soundservicemade_Ramp.B2 : List Nat:=[0,0,2,7,15,0,0,70,230,486,0,1222,4095,0,16383]
theorem soundservicemade_Ramp.tab2 : rtab .any (opsOf Try.f20 2)=soundservicemade_Ramp.T2:=by kernel_rfl
theorem soundservicemade_Ramp.bits2 : waitsOk soundservicemade_Ramp.T2.2 soundservicemade_Ramp.B2=true:=by kernel_rfl
set_option maxHeartbeats 8000000 in
set_option maxRecDepth 100000 in
theorem soundservicemade_Ramp.calls (g : Nat) (s0_0 : List Int) (r1 : Int) (r2 : Int) (r3 : Int) (r4 : Int) (r5 : List Int) (w0 w : World) (hI : IsS65 w0 w g s0_0) (hB : Below w0.heap.size w0 w) (h : soundservicemade_Ramp.f s0_0=some (r1,r2,r3,r4,r5)) :
  Calls Try.prog 20 #[.pointer (some ⟨g,0,none⟩)] w fun e w'=>e = .returned (.agg #[.int .i64 r1,.int .i64 r2,.int .i64 r3,.int .i64 r4])∧IsS65 w0 w' g r5∧Below w0.heap.size w0 w'∧KeepBut w w' g none:=by
 have hu35:=Try.underlying35
 have HGT:=Aside0.mk (IsS65.lt hI)
 have HI0:=Aside0.mk hI
 have HK:=Aside0.mk (KeepBut.refl w g none)
 have HL:=Aside0.mk hB.size
 clear hI
 have HW0:=Aside0.mk hB.size
 have HB:=Aside0.mk hB
 clear hB
 have H : ((some (([65536,0,1,262144,32768,65535,70000] : List Int) : List Int)).bind fun y123=>((soundservicemade_Dice_Next.f s0_0 7).bind fun bt126=>(if 0≤bt126.1 then (if bt126.1<(y123.length : Int) then ((soundservicemade_Dice_Next.f bt126.2 7).bind fun bt129=>(if 0≤bt129.1 then (if bt129.1<(y123.length : Int) then ((soundservicemade_Dice_Next.f bt129.2 12).bind fun bt132=>((soundservicemade_Dice_Next.f bt132.2 (wrap64 (bt132.1+1))).bind fun bt135=>(some (rd y123 bt126.1,rd y123 bt129.1,bt132.1,bt135.1,bt135.2)))) else (none)) else (none))) else (none)) else (none))))=some (r1,r2,r3,r4,r5):=h
 clear h
 obtain ⟨y123,hy123⟩ : ∃ y_ : List Int,y_=(([65536,0,1,262144,32768,65535,70000] : List Int)):=⟨_,rfl⟩
 replace H : ((soundservicemade_Dice_Next.f s0_0 7).bind fun bt126=>(if 0≤bt126.1 then (if bt126.1<(y123.length : Int) then ((soundservicemade_Dice_Next.f bt126.2 7).bind fun bt129=>(if 0≤bt129.1 then (if bt129.1<(y123.length : Int) then ((soundservicemade_Dice_Next.f bt129.2 12).bind fun bt132=>((soundservicemade_Dice_Next.f bt132.2 (wrap64 (bt132.1+1))).bind fun bt135=>(some (rd y123 bt126.1,rd y123 bt129.1,bt132.1,bt135.1,bt135.2)))) else (none)) else (none))) else (none)) else (none)))=some (r1,r2,r3,r4,r5):=by first|(rw [hy123];with_reducible exact H)|(have H2_:=(Option.bind_some _ _).symm.trans H;rw [hy123];with_reducible exact H2_)|(have H2_:=(Option.bind_some _ _).symm.trans H;with_reducible exact H2_)|with_reducible exact H|(rw [hy123];exact H)|exact H
 have Ny123:=Aside0.mk hy123
 clear hy123
 replace H:=Option.bind_eq_some_iff.mp H
 obtain ⟨⟨t126,t127⟩,A20,H⟩:=H
 replace H : (if 0≤t126 then (if t126<(y123.length : Int) then ((soundservicemade_Dice_Next.f t127 7).bind fun bt129=>(if 0≤bt129.1 then (if bt129.1<(y123.length : Int) then ((soundservicemade_Dice_Next.f bt129.2 12).bind fun bt132=>((soundservicemade_Dice_Next.f bt132.2 (wrap64 (bt132.1+1))).bind fun bt135=>(some (rd y123 t126,rd y123 bt129.1,bt132.1,bt135.1,bt135.2)))) else (none)) else (none))) else (none)) else (none))=some (r1,r2,r3,r4,r5):=H
 have A2:=Aside0.mk A20
 clear A20
 by_cases c3 : 0≤t126
 rotate_left
 ·rw [if_neg c3] at H
  exact absurd H (by simp)
 rw [if_pos c3] at H
 have c3b0 : decide (0≤t126)=true:=decide_eq_true c3
 clear c3
 by_cases c4 : t126<(y123.length : Int)
 rotate_left
 ·rw [if_neg c4] at H
  exact absurd H (by simp)
 rw [if_pos c4] at H
 have c4b0 : decide (t126<(y123.length : Int))=true:=decide_eq_true c4
 clear c4
 replace H:=Option.bind_eq_some_iff.mp H
 obtain ⟨⟨t129,t130⟩,A50,H⟩:=H
 replace H : (if 0≤t129 then (if t129<(y123.length : Int) then ((soundservicemade_Dice_Next.f t130 12).bind fun bt132=>((soundservicemade_Dice_Next.f bt132.2 (wrap64 (bt132.1+1))).bind fun bt135=>(some (rd y123 t126,rd y123 t129,bt132.1,bt135.1,bt135.2)))) else (none)) else (none))=some (r1,r2,r3,r4,r5):=H
 have A5:=Aside0.mk A50
 clear A50
 by_cases c6 : 0≤t129
 rotate_left
 ·rw [if_neg c6] at H
  exact absurd H (by simp)
 rw [if_pos c6] at H
 have c6b0 : decide (0≤t129)=true:=decide_eq_true c6
 clear c6
 by_cases c7 : t129<(y123.length : Int)
 rotate_left
 ·rw [if_neg c7] at H
  exact absurd H (by simp)
 rw [if_pos c7] at H
 have c7b0 : decide (t129<(y123.length : Int))=true:=decide_eq_true c7
 clear c7
 replace H:=Option.bind_eq_some_iff.mp H
 obtain ⟨⟨t132,t133⟩,A80,H⟩:=H
 replace H : ((soundservicemade_Dice_Next.f t133 (wrap64 (t132+1))).bind fun bt135=>(some (rd y123 t126,rd y123 t129,t132,bt135.1,bt135.2)))=some (r1,r2,r3,r4,r5):=H
 have A8:=Aside0.mk A80
 clear A80
 replace H:=Option.bind_eq_some_iff.mp H
 obtain ⟨⟨t135,t136⟩,A90,H⟩:=H
 replace H : (some (rd y123 t126,rd y123 t129,t132,t135,t136))=some (r1,r2,r3,r4,r5):=H
 have A9:=Aside0.mk A90
 clear A90
 simp only [Option.some.injEq,Prod.mk.injEq] at H
 obtain ⟨rfl,rfl,rfl,rfl,rfl⟩:=H
 go_enter Try.func20,Try.ntmps20
 try go_wp2_with (first|((with_reducible refine gate_dst (N:=2) rfl ?_);refine box_event ?hg (N:=2) ?hd (cs:=#[.int .i64 0,.int .i64 0,.int .i64 0,.int .i64 0]) (t:=35) ?hr ?_;(case hd=>rfl);(case hg=>rfl);(case hr=>first|(go_simp;done)|(go_simp;rfl));intro gb122 hg w10 hbox hb;replace HB:=Aside0.mk (below_step (zI HB HI0) hb);replace HI0:=Aside0.mk (IsS65.below (zJ HI0) hb);have BK122:=Aside0.mk hbox;have GW122:=Aside0.mk ((by rw [hg];exact (keep_size (w:=w) (g:=g) (row:=none) (zK HK)) : w.heap.size≤gb122));have GE122:=Aside0.mk ((Nat.le_trans HW0.out (by rw [hg];exact (keep_size (w:=w) (g:=g) (row:=none) (zK HK)) : w.heap.size≤gb122) : w0.heap.size≤gb122));have NB0_122:=Aside0.mk ((by rw [hg];exact Nat.ne_of_lt (Nat.lt_of_lt_of_le HGT.out (show KeepBut w _ g none from zK HK).1) : g≠gb122));have NB122_0:=Aside0.mk ((by rw [hg];exact Nat.ne_of_gt (Nat.lt_of_lt_of_le HGT.out (show KeepBut w _ g none from zK HK).1) : gb122≠g));replace HK:=Aside0.mk (KeepBut.trans (zK HK) (KeepBut.of_below hb g none) (.inl rfl));clear hb hbox hg)|((with_reducible refine gate_dst (N:=5) rfl ?_);refine Kd.R_lit (Kd.int .i64) _ 3 ?hg (N:=5) ?hd (xs:=([65536,0,1,262144,32768,65535,70000] : List Int)) (inner:=[.int .i64 65536,.int .i64 0,.int .i64 1,.int .i64 262144,.int .i64 32768,.int .i64 65535,.int .i64 70000]) (ok:=fun _=>True) (okp:=fun _=>True) ?hr ?hp (fun _ hk=>hk) trivial (Below.refl _ _) (Nat.le_refl _) (by simp) ?_;(case hd=>rfl);(case hg=>rfl);(case hr=>first|(go_simp;done)|(go_simp;rfl));(case hp=>exact (Reps.one (show Kd.M (Kd.int .i64) _ _ _ 65536 [.int .i64 65536] from rfl) (Reps.one (show Kd.M (Kd.int .i64) _ _ _ 0 [.int .i64 0] from rfl) (Reps.one (show Kd.M (Kd.int .i64) _ _ _ 1 [.int .i64 1] from rfl) (Reps.one (show Kd.M (Kd.int .i64) _ _ _ 262144 [.int .i64 262144] from rfl) (Reps.one (show Kd.M (Kd.int .i64) _ _ _ 32768 [.int .i64 32768] from rfl) (Reps.one (show Kd.M (Kd.int .i64) _ _ _ 65535 [.int .i64 65535] from rfl) (Reps.one (show Kd.M (Kd.int .i64) _ _ _ 70000 [.int .i64 70000] from rfl) (Reps.none _ _)))))))));intro v124 w11 ho12 hb hg_ hnew_;clear hg_ hnew_;(first|rw [← Ny123.out] at ho12|(simp only [Int.reduceToNat] at ho12;rw [← Ny123.out] at ho12));have HO125:=Aside0.mk (Kd.R_lower ho12 (keep_size (w:=w) (g:=g) (row:=none) (zK HK)));replace BK122:=Aside0.mk (blk_below (zB BK122) hb);replace HK:=Aside0.mk (KeepBut.trans (zK HK) (KeepBut.of_below hb g none) (.inl rfl));replace HB:=Aside0.mk (below_step (zI HB HI0) hb);replace HI0:=Aside0.mk (IsS65.below (zJ HI0) hb);clear hb ho12;obtain ⟨Ao13,co13,eo13⟩:=Kd.R_slice HO125.out;subst eo13))
 have n0_:=Aside0.mk (Kd.R_drew HO125.out)
 have n1_:=Aside0.mk (blk_drew BK122.out)
 have n2_:=Aside0.mk (IsS65.drew HI0.out)
 have n3_:=Aside0.mk (keep_drew HK.out)
 have n4_:=Aside0.mk (below_drew1 HB.out)
 clear HO125
 clear BK122
 clear HI0
 clear HK
 clear HB
 have HO125:=n0_
 have BK122:=n1_
 have HI0:=n2_
 have HK:=n3_
 have HB:=n4_
 clear n0_ n1_ n2_ n3_ n4_
 have p128 : 0≤(t126 : Int):=zD
 have q128 : t126<(y123.length : Int):=zD
 obtain ⟨ad128,e128,hx128_0⟩:=Kd.at_int (Kd.R_reads' HO125.out).2.2 t126 p128 q128
 cases e128
 replace p128:=eq_true p128
 replace q128:=eq_true q128
 have p131 : 0≤(t129 : Int):=zD
 have q131 : t129<(y123.length : Int):=zD
 obtain ⟨ad131,e131,hx131_0⟩:=Kd.at_int (Kd.R_reads' HO125.out).2.2 t129 p131 q131
 obtain rfl : ad128=ad131:=(by injection e131)
 replace p131:=eq_true p131
 replace q131:=eq_true q131
 refine start_ (n:=15) (S:=fun w'=>w'.cell? (ad128.add (t126).toNat)=some (.int .i64 (rd y123 t126))∧w'.cell? (ad128.add (t129).toNat)=some (.int .i64 (rd y123 t129))) (ds:=[]) #[false,false,false,false,false,false,false,false,false,false,false,false,false,false,false] zk rfl rfl ⟨hx128_0,hx131_0⟩ (fun hHeld=>?_);refine with_tabW soundservicemade_Ramp.tab2 soundservicemade_Ramp.bits2 (fun HT_ HW_=>?_)
 generalize w11.drew=w14 at HO125 BK122 HI0 HK HB hx128_0 hx131_0 hHeld ⊢
 refine pure_ (i:=0) (N:=some 6) (v:=?_) (a':=?_) #[true,false,false,false,false,false,false,false,false,false,false,false,false,false,false] rfl rfl (any_of HT_.out zk) (fun _ _ _ h=>h) (Or.inl ⟨by rfl,?_⟩) ?_ ?_
 rotate_left
 ·intro w'
  go_simp
  with_reducible rfl
 rotate_left
 ·simp only [Act.put,List.setIfInBounds_toArray,List.set_cons_zero,List.set_cons_succ,i64_w,i32_w]
  rfl
 refine pure_ (i:=1) (N:=some 7) (v:=?_) (a':=?_) #[true,true,false,false,false,false,false,false,false,false,false,false,false,false,false] rfl rfl (any_of HT_.out zk) (fun _ _ _ h=>h) (Or.inl ⟨by rfl,?_⟩) ?_ ?_
 rotate_left
 ·intro w'
  go_simp
  with_reducible rfl
 rotate_left
 ·simp only [Act.put,List.setIfInBounds_toArray,List.set_cons_zero,List.set_cons_succ,i64_w,i32_w]
  rfl
 refine pure_ (i:=5) (N:=some 11) (v:=?_) (a':=?_) #[true,true,false,false,false,true,false,false,false,false,false,false,false,false,false] rfl rfl (any_of HT_.out zk) (fun _ _ _ h=>h) (Or.inl ⟨by rfl,?_⟩) ?_ ?_
 rotate_left
 ·intro w'
  go_simp
  with_reducible rfl
 rotate_left
 ·simp only [Act.put,List.setIfInBounds_toArray,List.set_cons_zero,List.set_cons_succ,i64_w,i32_w]
  rfl
 refine pure_ (i:=6) (N:=some 12) (v:=?_) (a':=?_) #[true,true,false,false,false,true,true,false,false,false,false,false,false,false,false] rfl rfl (any_of HT_.out zk) (fun _ _ _ h=>h) (Or.inl ⟨by rfl,?_⟩) ?_ ?_
 rotate_left
 ·intro w'
  go_simp
  with_reducible rfl
 rotate_left
 ·simp only [Act.put,List.setIfInBounds_toArray,List.set_cons_zero,List.set_cons_succ,i64_w,i32_w]
  rfl
 refine pure_ (i:=10) (N:=some 16) (v:=?_) (a':=?_) #[true,true,false,false,false,true,true,false,false,false,true,false,false,false,false] rfl rfl (any_of HT_.out zk) (fun _ _ _ h=>h) (Or.inl ⟨by rfl,?_⟩) ?_ ?_
 rotate_left
 ·intro w'
  go_simp
  with_reducible rfl
 rotate_left
 ·simp only [Act.put,List.setIfInBounds_toArray,List.set_cons_zero,List.set_cons_succ,i64_w,i32_w]
  rfl
 refine join_ (σ:=Nat) 1 #[true,true,true,true,true,true,true,true,true,true,true,true,true,true,false] (fun s_=>[(8,.int .i64 t126),(13,.int .i64 t129),(17,.int .i64 t132),(4,.pointer (some ⟨s_,0,none⟩)),(9,.pointer (some (ad128.add (t126).toNat))),(10,.int .i64 (rd y123 t126)),(14,.pointer (some (ad128.add (t129).toNat))),(15,.int .i64 (rd y123 t129)),(18,.agg #[.int .i64 (rd y123 t126),.int .i64 (rd y123 t129),.int .i64 t132,.int .i64 0])]) (fun s_ w'=>(w'.cell? (ad128.add (t126).toNat)=some (.int .i64 (rd y123 t126))∧w'.cell? (ad128.add (t129).toNat)=some (.int .i64 (rd y123 t129)))∧(Kd.R (Kd.int .i64) 3 w' w.heap.size (fun _=>True) (.slice (some ad128) y123.length co13) y123)∧(w'.heap[gb122]?=some (.cells #[.int .i64 0,.int .i64 0,.int .i64 0,.int .i64 0] 35 (0,0)))∧(w'.heap[s_]?=some (.cells #[.int .i64 0,.int .i64 0,.int .i64 0,.int .i64 0] 35 (0,0)))∧(w.heap.size≤s_)∧(w0.heap.size≤s_)∧(g≠s_)∧(s_≠g)∧(gb122≠s_)∧(s_≠gb122)∧(IsS65 w0 w' g t133)∧(KeepBut w w' g none)∧(Below w0.heap.size w0 w')) ?_ ?_
 rotate_left
 ·intro hCont
  refine two_ (i:=2) (j:=13) (Ni:=some 8) (Nj:=some 4) #[true,true,true,false,false,true,true,false,false,false,true,false,false,false,false] #[true,true,false,false,false,true,true,false,false,false,true,false,false,true,false] rfl rfl rfl rfl (two_of HT_.out zk) (by decide) (by decide) (fun K hK=>?_) (fun K hK=>?_)
  ·skip
   refine goes_ Try.func30 zk rfl #[.pointer (some ⟨g,0,none⟩),.int .i64 7] (by rfl) rfl rfl zA ?_
   with_reducible refine (soundservicemade_Dice_Next.calls g s0_0 7 t126 t127 w0 _ ?side1 ?side2 A2.out).mono ?_
   (case side1=>exact zJ HI0)
   (case side2=>exact zI HB HI0)
   rintro e w15 ⟨rfl,hi,hb,hk⟩
   have HS0_:=keep_cell hk (hHeld.1) (by first|(rw [add_block];exact Kd.own_blk (IsS65.own_ne HI0.out HO125.out (by decide)))|(show (Addr.add _ _).block≠_;rw [add_block];exact Kd.own_blk (IsS65.own_ne HI0.out HO125.out (by decide)))|exact Kd.own_blk (IsS65.own_ne HI0.out HO125.out (by decide)))
   have HS1_:=keep_cell hk (hHeld.2) (by first|(rw [add_block];exact Kd.own_blk (IsS65.own_ne HI0.out HO125.out (by decide)))|(show (Addr.add _ _).block≠_;rw [add_block];exact Kd.own_blk (IsS65.own_ne HI0.out HO125.out (by decide)))|exact Kd.own_blk (IsS65.own_ne HI0.out HO125.out (by decide)))
   refine ⟨_,rfl,?_⟩
   have n0_:=Aside0.mk (KeepBut.blk hk (g':=gb122) (o:=.cells #[.int .i64 0,.int .i64 0,.int .i64 0,.int .i64 0] 35 (0,0)) (zB BK122) NB122_0.out (by simp))
   have n1_:=Aside0.mk (Kd.R_mono (Kd.R_keep (IsS65.apart (show IsS65 w0 _ g s0_0 from zJ HI0) (zR HO125) (by decide)) hk (fun _ h=>h.2)) (fun _ h=>h.1))
   have n2_:=Aside0.mk (KeepBut.trans (zK HK) hk (.inl rfl))
   have n3_:=Aside0.mk hb
   have n4_:=Aside0.mk hi
   clear BK122
   clear HO125
   clear HK
   clear HB
   clear HI0
   have BK122:=n0_
   have HO125:=n1_
   have HK:=n2_
   have HB:=n3_
   have HI0:=n4_
   clear n0_ n1_ n2_ n3_ n4_
   (try clear hb)
   (try clear hb2)
   (try clear hk)
   (try clear hi)
   (try clear hgw)
   refine hK.out _ _ ⟨HS0_,HS1_⟩ (fun hHeld=>?_)
   clear hK K
   refine norm_ (a':=?_) ?_ ?_
   rotate_left
   ·show Act.put _ (some 8) _=_
    simp only [Act.put,List.setIfInBounds_toArray,List.set_cons_zero,List.set_cons_succ,i64_w,i32_w]
    rfl
   refine pure_ (i:=3) (N:=some 9) (v:=?_) (a':=?_) #[true,true,true,true,false,true,true,false,false,false,true,false,false,false,false] rfl rfl (any_of HT_.out zk) (fun _ _ _ h=>h) (Or.inl ⟨by rfl,?_⟩) ?_ ?_
   rotate_left
   ·intro w'
    go_simp
    with_reducible rfl
   rotate_left
   ·simp only [Act.put,List.setIfInBounds_toArray,List.set_cons_zero,List.set_cons_succ,i64_w,i32_w]
    rfl
   refine take_ (i:=4) (N:=some 10) (v:=?_) (a':=?_) #[true,true,true,true,true,true,true,false,false,false,true,false,false,false,false] rfl rfl (take_ofW HT_.out HW_.out zk) (fun _ _ _ h=>h) (Or.inl ⟨by rfl,?_⟩) hHeld ?_ ?_
   rotate_left
   ·rintro w' ⟨s0,s1⟩
    go_simp
    with_reducible rfl
   rotate_left
   ·simp only [Act.put,List.setIfInBounds_toArray,List.set_cons_zero,List.set_cons_succ,i64_w,i32_w]
    rfl
   refine two_ (i:=7) (j:=13) (Ni:=some 13) (Nj:=some 4) #[true,true,true,true,true,true,true,true,false,false,true,false,false,false,false] #[true,true,true,true,true,true,true,false,false,false,true,false,false,true,false] rfl rfl rfl rfl (two_of HT_.out zk) (by decide) (by decide) (fun K hK=>?_) (fun K hK=>?_)
   ·skip
    refine goes_ Try.func30 zk rfl #[.pointer (some ⟨g,0,none⟩),.int .i64 7] (by rfl) rfl rfl zA ?_
    with_reducible refine (soundservicemade_Dice_Next.calls g t127 7 t129 t130 w0 _ ?side1 ?side2 A5.out).mono ?_
    (case side1=>exact zJ HI0)
    (case side2=>exact zI HB HI0)
    rintro e w16 ⟨rfl,hi,hb,hk⟩
    have HS0_:=keep_cell hk (hHeld.1) (by first|(rw [add_block];exact Kd.own_blk (IsS65.own_ne HI0.out HO125.out (by decide)))|(show (Addr.add _ _).block≠_;rw [add_block];exact Kd.own_blk (IsS65.own_ne HI0.out HO125.out (by decide)))|exact Kd.own_blk (IsS65.own_ne HI0.out HO125.out (by decide)))
    have HS1_:=keep_cell hk (hHeld.2) (by first|(rw [add_block];exact Kd.own_blk (IsS65.own_ne HI0.out HO125.out (by decide)))|(show (Addr.add _ _).block≠_;rw [add_block];exact Kd.own_blk (IsS65.own_ne HI0.out HO125.out (by decide)))|exact Kd.own_blk (IsS65.own_ne HI0.out HO125.out (by decide)))
    refine ⟨_,rfl,?_⟩
    have n0_:=Aside0.mk (KeepBut.blk hk (g':=gb122) (o:=.cells #[.int .i64 0,.int .i64 0,.int .i64 0,.int .i64 0] 35 (0,0)) (zB BK122) NB122_0.out (by simp))
    have n1_:=Aside0.mk (Kd.R_mono (Kd.R_keep (IsS65.apart (show IsS65 w0 _ g t127 from zJ HI0) (zR HO125) (by decide)) hk (fun _ h=>h.2)) (fun _ h=>h.1))
    have n2_:=Aside0.mk (KeepBut.trans (zK HK) hk (.inl rfl))
    have n3_:=Aside0.mk hb
    have n4_:=Aside0.mk hi
    clear BK122
    clear HO125
    clear HK
    clear HB
    clear HI0
    have BK122:=n0_
    have HO125:=n1_
    have HK:=n2_
    have HB:=n3_
    have HI0:=n4_
    clear n0_ n1_ n2_ n3_ n4_
    (try clear hb)
    (try clear hb2)
    (try clear hk)
    (try clear hi)
    (try clear hgw)
    refine hK.out _ _ ⟨HS0_,HS1_⟩ (fun hHeld=>?_)
    clear hK K
    refine norm_ (a':=?_) ?_ ?_
    rotate_left
    ·show Act.put _ (some 13) _=_
     simp only [Act.put,List.setIfInBounds_toArray,List.set_cons_zero,List.set_cons_succ,i64_w,i32_w]
     rfl
    refine pure_ (i:=8) (N:=some 14) (v:=?_) (a':=?_) #[true,true,true,true,true,true,true,true,true,false,true,false,false,false,false] rfl rfl (any_of HT_.out zk) (fun _ _ _ h=>h) (Or.inl ⟨by rfl,?_⟩) ?_ ?_
    rotate_left
    ·intro w'
     go_simp
     with_reducible rfl
    rotate_left
    ·simp only [Act.put,List.setIfInBounds_toArray,List.set_cons_zero,List.set_cons_succ,i64_w,i32_w]
     rfl
    refine take_ (i:=9) (N:=some 15) (v:=?_) (a':=?_) #[true,true,true,true,true,true,true,true,true,true,true,false,false,false,false] rfl rfl (take_ofW HT_.out HW_.out zk) (fun _ _ _ h=>h) (Or.inl ⟨by rfl,?_⟩) hHeld ?_ ?_
    rotate_left
    ·rintro w' ⟨s0,s1⟩
     go_simp
     with_reducible rfl
    rotate_left
    ·simp only [Act.put,List.setIfInBounds_toArray,List.set_cons_zero,List.set_cons_succ,i64_w,i32_w]
     rfl
    refine two_ (i:=11) (j:=13) (Ni:=some 17) (Nj:=some 4) #[true,true,true,true,true,true,true,true,true,true,true,true,false,false,false] #[true,true,true,true,true,true,true,true,true,true,true,false,false,true,false] rfl rfl rfl rfl (two_of HT_.out zk) (by decide) (by decide) (fun K hK=>?_) (fun K hK=>?_)
    ·skip
     refine goes_ Try.func30 zk rfl #[.pointer (some ⟨g,0,none⟩),.int .i64 12] (by rfl) rfl rfl zA ?_
     with_reducible refine (soundservicemade_Dice_Next.calls g t130 12 t132 t133 w0 _ ?side1 ?side2 A8.out).mono ?_
     (case side1=>exact zJ HI0)
     (case side2=>exact zI HB HI0)
     rintro e w17 ⟨rfl,hi,hb,hk⟩
     have HS0_:=keep_cell hk (hHeld.1) (by first|(rw [add_block];exact Kd.own_blk (IsS65.own_ne HI0.out HO125.out (by decide)))|(show (Addr.add _ _).block≠_;rw [add_block];exact Kd.own_blk (IsS65.own_ne HI0.out HO125.out (by decide)))|exact Kd.own_blk (IsS65.own_ne HI0.out HO125.out (by decide)))
     have HS1_:=keep_cell hk (hHeld.2) (by first|(rw [add_block];exact Kd.own_blk (IsS65.own_ne HI0.out HO125.out (by decide)))|(show (Addr.add _ _).block≠_;rw [add_block];exact Kd.own_blk (IsS65.own_ne HI0.out HO125.out (by decide)))|exact Kd.own_blk (IsS65.own_ne HI0.out HO125.out (by decide)))
     refine ⟨_,rfl,?_⟩
     have n0_:=Aside0.mk (KeepBut.blk hk (g':=gb122) (o:=.cells #[.int .i64 0,.int .i64 0,.int .i64 0,.int .i64 0] 35 (0,0)) (zB BK122) NB122_0.out (by simp))
     have n1_:=Aside0.mk (Kd.R_mono (Kd.R_keep (IsS65.apart (show IsS65 w0 _ g t130 from zJ HI0) (zR HO125) (by decide)) hk (fun _ h=>h.2)) (fun _ h=>h.1))
     have n2_:=Aside0.mk (KeepBut.trans (zK HK) hk (.inl rfl))
     have n3_:=Aside0.mk hb
     have n4_:=Aside0.mk hi
     clear BK122
     clear HO125
     clear HK
     clear HB
     clear HI0
     have BK122:=n0_
     have HO125:=n1_
     have HK:=n2_
     have HB:=n3_
     have HI0:=n4_
     clear n0_ n1_ n2_ n3_ n4_
     (try clear hb)
     (try clear hb2)
     (try clear hk)
     (try clear hi)
     (try clear hgw)
     refine hK.out _ _ ⟨HS0_,HS1_⟩ (fun hHeld=>?_)
     clear hK K
     refine norm_ (a':=?_) ?_ ?_
     rotate_left
     ·show Act.put _ (some 17) _=_
      simp only [Act.put,List.setIfInBounds_toArray,List.set_cons_zero,List.set_cons_succ,i64_w,i32_w]
      rfl
     refine pure_ (i:=12) (N:=some 18) (v:=?_) (a':=?_) #[true,true,true,true,true,true,true,true,true,true,true,true,true,false,false] rfl rfl (any_of HT_.out zk) (fun _ _ _ h=>h) (Or.inl ⟨by rfl,?_⟩) ?_ ?_
     rotate_left
     ·intro w'
      go_simp
      with_reducible rfl
     rotate_left
     ·simp only [Act.put,List.setIfInBounds_toArray,List.set_cons_zero,List.set_cons_succ,i64_w,i32_w]
      rfl
     refine one_ (i:=13) (N:=some 4) #[true,true,true,true,true,true,true,true,true,true,true,true,true,true,false] rfl rfl (one_of HT_.out zk) (by decide) (fun K hK=>?_)
     refine box_step ?hg (N:=4) ?hd (cs:=#[.int .i64 0,.int .i64 0,.int .i64 0,.int .i64 0]) (t:=35) ?hr ?_;(case hd=>rfl);(case hg=>rfl);(case hr=>first|(go_simp;done)|(go_simp;rfl))
     intro gb134 hg w18 hbox hb
     have HS0_:=(hb.cell (World.block_lt_of_cell? _ _ (hHeld.1))).trans (hHeld.1)
     have HS1_:=(hb.cell (World.block_lt_of_cell? _ _ (hHeld.2))).trans (hHeld.2)
     have n0_:=Aside0.mk (Kd.R_below (zR HO125) hb)
     have n1_:=Aside0.mk (IsS65.below (zJ HI0) hb)
     have n2_:=Aside0.mk (blk_below (zB BK122) hb)
     have n3_:=Aside0.mk (KeepBut.trans (zK HK) (KeepBut.of_below hb g none) (.inl rfl))
     have n4_:=Aside0.mk (below_step (zI HB HI0) hb)
     have n5_:=Aside0.mk hbox
     have n6_:=Aside0.mk ((by rw [hg];exact (keep_size (w:=w) (g:=g) (row:=none) (zK HK)) : w.heap.size≤gb134))
     have n7_:=Aside0.mk ((Nat.le_trans HW0.out (by rw [hg];exact (keep_size (w:=w) (g:=g) (row:=none) (zK HK)) : w.heap.size≤gb134) : w0.heap.size≤gb134))
     have n8_:=Aside0.mk (zL hg BK122)
     have n9_:=Aside0.mk (zG hg BK122)
     have n10_:=Aside0.mk ((by rw [hg];exact Nat.ne_of_lt (Nat.lt_of_lt_of_le HGT.out (show KeepBut w _ g none from zK HK).1) : g≠gb134))
     have n11_:=Aside0.mk ((by rw [hg];exact Nat.ne_of_gt (Nat.lt_of_lt_of_le HGT.out (show KeepBut w _ g none from zK HK).1) : gb134≠g))
     clear HO125
     clear HI0
     clear BK122
     clear HK
     clear HB
     have HO125:=n0_
     have HI0:=n1_
     have BK122:=n2_
     have HK:=n3_
     have HB:=n4_
     have BK134:=n5_
     have GW134:=n6_
     have GE134:=n7_
     have NB122_134:=n8_
     have NB134_122:=n9_
     have NB0_134:=n10_
     have NB134_0:=n11_
     clear n0_ n1_ n2_ n3_ n4_ n5_ n6_ n7_ n8_ n9_ n10_ n11_
     clear hb hbox hg
     refine hK.out _ _ ⟨HS0_,HS1_⟩ (fun hHeld=>?_)
     clear hK K
     refine norm_ (a':=?_) ?_ ?_
     rotate_left
     ·show Act.put _ (some 4) _=_
      simp only [Act.put,List.setIfInBounds_toArray,List.set_cons_zero,List.set_cons_succ,i64_w,i32_w]
      rfl
     exact norm_ (by simp only [putAll,Act.put,List.setIfInBounds_toArray,List.set_cons_zero,List.set_cons_succ]) (hCont (gb134) _ ⟨hHeld,(zR HO125),(zB BK122),(zB BK134),GW134.out,GE134.out,NB0_134.out,NB134_0.out,NB122_134.out,NB134_122.out,(zJ HI0),(zK HK),(zI HB HI0)⟩)
    ·skip
     refine box_step ?hg (N:=4) ?hd (cs:=#[.int .i64 0,.int .i64 0,.int .i64 0,.int .i64 0]) (t:=35) ?hr ?_;(case hd=>rfl);(case hg=>rfl);(case hr=>first|(go_simp;done)|(go_simp;rfl))
     intro gb134 hg w17 hbox hb
     have HS0_:=(hb.cell (World.block_lt_of_cell? _ _ (hHeld.1))).trans (hHeld.1)
     have HS1_:=(hb.cell (World.block_lt_of_cell? _ _ (hHeld.2))).trans (hHeld.2)
     have n0_:=Aside0.mk (Kd.R_below (zR HO125) hb)
     have n1_:=Aside0.mk (IsS65.below (zJ HI0) hb)
     have n2_:=Aside0.mk (blk_below (zB BK122) hb)
     have n3_:=Aside0.mk (KeepBut.trans (zK HK) (KeepBut.of_below hb g none) (.inl rfl))
     have n4_:=Aside0.mk (below_step (zI HB HI0) hb)
     have n5_:=Aside0.mk hbox
     have n6_:=Aside0.mk ((by rw [hg];exact (keep_size (w:=w) (g:=g) (row:=none) (zK HK)) : w.heap.size≤gb134))
     have n7_:=Aside0.mk ((Nat.le_trans HW0.out (by rw [hg];exact (keep_size (w:=w) (g:=g) (row:=none) (zK HK)) : w.heap.size≤gb134) : w0.heap.size≤gb134))
     have n8_:=Aside0.mk (zL hg BK122)
     have n9_:=Aside0.mk (zG hg BK122)
     have n10_:=Aside0.mk ((by rw [hg];exact Nat.ne_of_lt (Nat.lt_of_lt_of_le HGT.out (show KeepBut w _ g none from zK HK).1) : g≠gb134))
     have n11_:=Aside0.mk ((by rw [hg];exact Nat.ne_of_gt (Nat.lt_of_lt_of_le HGT.out (show KeepBut w _ g none from zK HK).1) : gb134≠g))
     clear HO125
     clear HI0
     clear BK122
     clear HK
     clear HB
     have HO125:=n0_
     have HI0:=n1_
     have BK122:=n2_
     have HK:=n3_
     have HB:=n4_
     have BK134:=n5_
     have GW134:=n6_
     have GE134:=n7_
     have NB122_134:=n8_
     have NB134_122:=n9_
     have NB0_134:=n10_
     have NB134_0:=n11_
     clear n0_ n1_ n2_ n3_ n4_ n5_ n6_ n7_ n8_ n9_ n10_ n11_
     clear hb hbox hg
     refine hK.out _ _ ⟨HS0_,HS1_⟩ (fun hHeld=>?_)
     clear hK K
     refine norm_ (a':=?_) ?_ ?_
     rotate_left
     ·show Act.put _ (some 4) _=_
      simp only [Act.put,List.setIfInBounds_toArray,List.set_cons_zero,List.set_cons_succ,i64_w,i32_w]
      rfl
     refine one_ (i:=11) (N:=some 17) #[true,true,true,true,true,true,true,true,true,true,true,true,false,true,false] rfl rfl (one_of HT_.out zk) (by decide) (fun K hK=>?_)
     refine goes_ Try.func30 zk rfl #[.pointer (some ⟨g,0,none⟩),.int .i64 12] (by rfl) rfl rfl zA ?_
     with_reducible refine (soundservicemade_Dice_Next.calls g t130 12 t132 t133 w0 _ ?side1 ?side2 A8.out).mono ?_
     (case side1=>exact zJ HI0)
     (case side2=>exact zI HB HI0)
     rintro e w18 ⟨rfl,hi,hb,hk⟩
     have HS0_:=keep_cell hk (hHeld.1) (by first|(rw [add_block];exact Kd.own_blk (IsS65.own_ne HI0.out HO125.out (by decide)))|(show (Addr.add _ _).block≠_;rw [add_block];exact Kd.own_blk (IsS65.own_ne HI0.out HO125.out (by decide)))|exact Kd.own_blk (IsS65.own_ne HI0.out HO125.out (by decide)))
     have HS1_:=keep_cell hk (hHeld.2) (by first|(rw [add_block];exact Kd.own_blk (IsS65.own_ne HI0.out HO125.out (by decide)))|(show (Addr.add _ _).block≠_;rw [add_block];exact Kd.own_blk (IsS65.own_ne HI0.out HO125.out (by decide)))|exact Kd.own_blk (IsS65.own_ne HI0.out HO125.out (by decide)))
     refine ⟨_,rfl,?_⟩
     have n0_:=Aside0.mk (KeepBut.blk hk (g':=gb122) (o:=.cells #[.int .i64 0,.int .i64 0,.int .i64 0,.int .i64 0] 35 (0,0)) (zB BK122) NB122_0.out (by simp))
     have n1_:=Aside0.mk (Kd.R_mono (Kd.R_keep (IsS65.apart (show IsS65 w0 _ g t130 from zJ HI0) (zR HO125) (by decide)) hk (fun _ h=>h.2)) (fun _ h=>h.1))
     have n2_:=Aside0.mk (KeepBut.blk hk (g':=gb134) (o:=.cells #[.int .i64 0,.int .i64 0,.int .i64 0,.int .i64 0] 35 (0,0)) (zB BK134) NB134_0.out (by simp))
     have n3_:=Aside0.mk (KeepBut.trans (zK HK) hk (.inl rfl))
     have n4_:=Aside0.mk hb
     have n5_:=Aside0.mk hi
     clear BK122
     clear HO125
     clear BK134
     clear HK
     clear HB
     clear HI0
     have BK122:=n0_
     have HO125:=n1_
     have BK134:=n2_
     have HK:=n3_
     have HB:=n4_
     have HI0:=n5_
     clear n0_ n1_ n2_ n3_ n4_ n5_
     (try clear hb)
     (try clear hb2)
     (try clear hk)
     (try clear hi)
     (try clear hgw)
     refine hK.out _ _ ⟨HS0_,HS1_⟩ (fun hHeld=>?_)
     clear hK K
     refine norm_ (a':=?_) ?_ ?_
     rotate_left
     ·show Act.put _ (some 17) _=_
      simp only [Act.put,List.setIfInBounds_toArray,List.set_cons_zero,List.set_cons_succ,i64_w,i32_w]
      rfl
     refine pure_ (i:=12) (N:=some 18) (v:=?_) (a':=?_) #[true,true,true,true,true,true,true,true,true,true,true,true,true,true,false] rfl rfl (any_of HT_.out zk) (fun _ _ _ h=>h) (Or.inl ⟨by rfl,?_⟩) ?_ ?_
     rotate_left
     ·intro w'
      go_simp
      with_reducible rfl
     rotate_left
     ·simp only [Act.put,List.setIfInBounds_toArray,List.set_cons_zero,List.set_cons_succ,i64_w,i32_w]
      rfl
     exact norm_ (by simp only [putAll,Act.put,List.setIfInBounds_toArray,List.set_cons_zero,List.set_cons_succ]) (hCont (gb134) _ ⟨hHeld,(zR HO125),(zB BK122),(zB BK134),GW134.out,GE134.out,NB0_134.out,NB134_0.out,NB122_134.out,NB134_122.out,(zJ HI0),(zK HK),(zI HB HI0)⟩)
   ·skip
    refine box_step ?hg (N:=4) ?hd (cs:=#[.int .i64 0,.int .i64 0,.int .i64 0,.int .i64 0]) (t:=35) ?hr ?_;(case hd=>rfl);(case hg=>rfl);(case hr=>first|(go_simp;done)|(go_simp;rfl))
    intro gb134 hg w16 hbox hb
    have HS0_:=(hb.cell (World.block_lt_of_cell? _ _ (hHeld.1))).trans (hHeld.1)
    have HS1_:=(hb.cell (World.block_lt_of_cell? _ _ (hHeld.2))).trans (hHeld.2)
    have n0_:=Aside0.mk (Kd.R_below (zR HO125) hb)
    have n1_:=Aside0.mk (IsS65.below (zJ HI0) hb)
    have n2_:=Aside0.mk (blk_below (zB BK122) hb)
    have n3_:=Aside0.mk (KeepBut.trans (zK HK) (KeepBut.of_below hb g none) (.inl rfl))
    have n4_:=Aside0.mk (below_step (zI HB HI0) hb)
    have n5_:=Aside0.mk hbox
    have n6_:=Aside0.mk ((by rw [hg];exact (keep_size (w:=w) (g:=g) (row:=none) (zK HK)) : w.heap.size≤gb134))
    have n7_:=Aside0.mk ((Nat.le_trans HW0.out (by rw [hg];exact (keep_size (w:=w) (g:=g) (row:=none) (zK HK)) : w.heap.size≤gb134) : w0.heap.size≤gb134))
    have n8_:=Aside0.mk (zL hg BK122)
    have n9_:=Aside0.mk (zG hg BK122)
    have n10_:=Aside0.mk ((by rw [hg];exact Nat.ne_of_lt (Nat.lt_of_lt_of_le HGT.out (show KeepBut w _ g none from zK HK).1) : g≠gb134))
    have n11_:=Aside0.mk ((by rw [hg];exact Nat.ne_of_gt (Nat.lt_of_lt_of_le HGT.out (show KeepBut w _ g none from zK HK).1) : gb134≠g))
    clear HO125
    clear HI0
    clear BK122
    clear HK
    clear HB
    have HO125:=n0_
    have HI0:=n1_
    have BK122:=n2_
    have HK:=n3_
    have HB:=n4_
    have BK134:=n5_
    have GW134:=n6_
    have GE134:=n7_
    have NB122_134:=n8_
    have NB134_122:=n9_
    have NB0_134:=n10_
    have NB134_0:=n11_
    clear n0_ n1_ n2_ n3_ n4_ n5_ n6_ n7_ n8_ n9_ n10_ n11_
    clear hb hbox hg
    refine hK.out _ _ ⟨HS0_,HS1_⟩ (fun hHeld=>?_)
    clear hK K
    refine norm_ (a':=?_) ?_ ?_
    rotate_left
    ·show Act.put _ (some 4) _=_
     simp only [Act.put,List.setIfInBounds_toArray,List.set_cons_zero,List.set_cons_succ,i64_w,i32_w]
     rfl
    refine one_ (i:=7) (N:=some 13) #[true,true,true,true,true,true,true,true,false,false,true,false,false,true,false] rfl rfl (one_of HT_.out zk) (by decide) (fun K hK=>?_)
    refine goes_ Try.func30 zk rfl #[.pointer (some ⟨g,0,none⟩),.int .i64 7] (by rfl) rfl rfl zA ?_
    with_reducible refine (soundservicemade_Dice_Next.calls g t127 7 t129 t130 w0 _ ?side1 ?side2 A5.out).mono ?_
    (case side1=>exact zJ HI0)
    (case side2=>exact zI HB HI0)
    rintro e w17 ⟨rfl,hi,hb,hk⟩
    have HS0_:=keep_cell hk (hHeld.1) (by first|(rw [add_block];exact Kd.own_blk (IsS65.own_ne HI0.out HO125.out (by decide)))|(show (Addr.add _ _).block≠_;rw [add_block];exact Kd.own_blk (IsS65.own_ne HI0.out HO125.out (by decide)))|exact Kd.own_blk (IsS65.own_ne HI0.out HO125.out (by decide)))
    have HS1_:=keep_cell hk (hHeld.2) (by first|(rw [add_block];exact Kd.own_blk (IsS65.own_ne HI0.out HO125.out (by decide)))|(show (Addr.add _ _).block≠_;rw [add_block];exact Kd.own_blk (IsS65.own_ne HI0.out HO125.out (by decide)))|exact Kd.own_blk (IsS65.own_ne HI0.out HO125.out (by decide)))
    refine ⟨_,rfl,?_⟩
    have n0_:=Aside0.mk (KeepBut.blk hk (g':=gb122) (o:=.cells #[.int .i64 0,.int .i64 0,.int .i64 0,.int .i64 0] 35 (0,0)) (zB BK122) NB122_0.out (by simp))
    have n1_:=Aside0.mk (Kd.R_mono (Kd.R_keep (IsS65.apart (show IsS65 w0 _ g t127 from zJ HI0) (zR HO125) (by decide)) hk (fun _ h=>h.2)) (fun _ h=>h.1))
    have n2_:=Aside0.mk (KeepBut.blk hk (g':=gb134) (o:=.cells #[.int .i64 0,.int .i64 0,.int .i64 0,.int .i64 0] 35 (0,0)) (zB BK134) NB134_0.out (by simp))
    have n3_:=Aside0.mk (KeepBut.trans (zK HK) hk (.inl rfl))
    have n4_:=Aside0.mk hb
    have n5_:=Aside0.mk hi
    clear BK122
    clear HO125
    clear BK134
    clear HK
    clear HB
    clear HI0
    have BK122:=n0_
    have HO125:=n1_
    have BK134:=n2_
    have HK:=n3_
    have HB:=n4_
    have HI0:=n5_
    clear n0_ n1_ n2_ n3_ n4_ n5_
    (try clear hb)
    (try clear hb2)
    (try clear hk)
    (try clear hi)
    (try clear hgw)
    refine hK.out _ _ ⟨HS0_,HS1_⟩ (fun hHeld=>?_)
    clear hK K
    refine norm_ (a':=?_) ?_ ?_
    rotate_left
    ·show Act.put _ (some 13) _=_
     simp only [Act.put,List.setIfInBounds_toArray,List.set_cons_zero,List.set_cons_succ,i64_w,i32_w]
     rfl
    refine pure_ (i:=8) (N:=some 14) (v:=?_) (a':=?_) #[true,true,true,true,true,true,true,true,true,false,true,false,false,true,false] rfl rfl (any_of HT_.out zk) (fun _ _ _ h=>h) (Or.inl ⟨by rfl,?_⟩) ?_ ?_
    rotate_left
    ·intro w'
     go_simp
     with_reducible rfl
    rotate_left
    ·simp only [Act.put,List.setIfInBounds_toArray,List.set_cons_zero,List.set_cons_succ,i64_w,i32_w]
     rfl
    refine take_ (i:=9) (N:=some 15) (v:=?_) (a':=?_) #[true,true,true,true,true,true,true,true,true,true,true,false,false,true,false] rfl rfl (take_ofW HT_.out HW_.out zk) (fun _ _ _ h=>h) (Or.inl ⟨by rfl,?_⟩) hHeld ?_ ?_
    rotate_left
    ·rintro w' ⟨s0,s1⟩
     go_simp
     with_reducible rfl
    rotate_left
    ·simp only [Act.put,List.setIfInBounds_toArray,List.set_cons_zero,List.set_cons_succ,i64_w,i32_w]
     rfl
    refine one_ (i:=11) (N:=some 17) #[true,true,true,true,true,true,true,true,true,true,true,true,false,true,false] rfl rfl (one_of HT_.out zk) (by decide) (fun K hK=>?_)
    refine goes_ Try.func30 zk rfl #[.pointer (some ⟨g,0,none⟩),.int .i64 12] (by rfl) rfl rfl zA ?_
    with_reducible refine (soundservicemade_Dice_Next.calls g t130 12 t132 t133 w0 _ ?side1 ?side2 A8.out).mono ?_
    (case side1=>exact zJ HI0)
    (case side2=>exact zI HB HI0)
    rintro e w18 ⟨rfl,hi,hb,hk⟩
    have HS0_:=keep_cell hk (hHeld.1) (by first|(rw [add_block];exact Kd.own_blk (IsS65.own_ne HI0.out HO125.out (by decide)))|(show (Addr.add _ _).block≠_;rw [add_block];exact Kd.own_blk (IsS65.own_ne HI0.out HO125.out (by decide)))|exact Kd.own_blk (IsS65.own_ne HI0.out HO125.out (by decide)))
    have HS1_:=keep_cell hk (hHeld.2) (by first|(rw [add_block];exact Kd.own_blk (IsS65.own_ne HI0.out HO125.out (by decide)))|(show (Addr.add _ _).block≠_;rw [add_block];exact Kd.own_blk (IsS65.own_ne HI0.out HO125.out (by decide)))|exact Kd.own_blk (IsS65.own_ne HI0.out HO125.out (by decide)))
    refine ⟨_,rfl,?_⟩
    have n0_:=Aside0.mk (KeepBut.blk hk (g':=gb122) (o:=.cells #[.int .i64 0,.int .i64 0,.int .i64 0,.int .i64 0] 35 (0,0)) (zB BK122) NB122_0.out (by simp))
    have n1_:=Aside0.mk (Kd.R_mono (Kd.R_keep (IsS65.apart (show IsS65 w0 _ g t130 from zJ HI0) (zR HO125) (by decide)) hk (fun _ h=>h.2)) (fun _ h=>h.1))
    have n2_:=Aside0.mk (KeepBut.blk hk (g':=gb134) (o:=.cells #[.int .i64 0,.int .i64 0,.int .i64 0,.int .i64 0] 35 (0,0)) (zB BK134) NB134_0.out (by simp))
    have n3_:=Aside0.mk (KeepBut.trans (zK HK) hk (.inl rfl))
    have n4_:=Aside0.mk hb
    have n5_:=Aside0.mk hi
    clear BK122
    clear HO125
    clear BK134
    clear HK
    clear HB
    clear HI0
    have BK122:=n0_
    have HO125:=n1_
    have BK134:=n2_
    have HK:=n3_
    have HB:=n4_
    have HI0:=n5_
    clear n0_ n1_ n2_ n3_ n4_ n5_
    (try clear hb)
    (try clear hb2)
    (try clear hk)
    (try clear hi)
    (try clear hgw)
    refine hK.out _ _ ⟨HS0_,HS1_⟩ (fun hHeld=>?_)
    clear hK K
    refine norm_ (a':=?_) ?_ ?_
    rotate_left
    ·show Act.put _ (some 17) _=_
     simp only [Act.put,List.setIfInBounds_toArray,List.set_cons_zero,List.set_cons_succ,i64_w,i32_w]
     rfl
    refine pure_ (i:=12) (N:=some 18) (v:=?_) (a':=?_) #[true,true,true,true,true,true,true,true,true,true,true,true,true,true,false] rfl rfl (any_of HT_.out zk) (fun _ _ _ h=>h) (Or.inl ⟨by rfl,?_⟩) ?_ ?_
    rotate_left
    ·intro w'
     go_simp
     with_reducible rfl
    rotate_left
    ·simp only [Act.put,List.setIfInBounds_toArray,List.set_cons_zero,List.set_cons_succ,i64_w,i32_w]
     rfl
    exact norm_ (by simp only [putAll,Act.put,List.setIfInBounds_toArray,List.set_cons_zero,List.set_cons_succ]) (hCont (gb134) _ ⟨hHeld,(zR HO125),(zB BK122),(zB BK134),GW134.out,GE134.out,NB0_134.out,NB134_0.out,NB122_134.out,NB134_122.out,(zJ HI0),(zK HK),(zI HB HI0)⟩)
  ·skip
   refine box_step ?hg (N:=4) ?hd (cs:=#[.int .i64 0,.int .i64 0,.int .i64 0,.int .i64 0]) (t:=35) ?hr ?_;(case hd=>rfl);(case hg=>rfl);(case hr=>first|(go_simp;done)|(go_simp;rfl))
   intro gb134 hg w15 hbox hb
   have HS0_:=(hb.cell (World.block_lt_of_cell? _ _ (hHeld.1))).trans (hHeld.1)
   have HS1_:=(hb.cell (World.block_lt_of_cell? _ _ (hHeld.2))).trans (hHeld.2)
   have n0_:=Aside0.mk (Kd.R_below (zR HO125) hb)
   have n1_:=Aside0.mk (IsS65.below (zJ HI0) hb)
   have n2_:=Aside0.mk (blk_below (zB BK122) hb)
   have n3_:=Aside0.mk (KeepBut.trans (zK HK) (KeepBut.of_below hb g none) (.inl rfl))
   have n4_:=Aside0.mk (below_step (zI HB HI0) hb)
   have n5_:=Aside0.mk hbox
   have n6_:=Aside0.mk ((by rw [hg];exact (keep_size (w:=w) (g:=g) (row:=none) (zK HK)) : w.heap.size≤gb134))
   have n7_:=Aside0.mk ((Nat.le_trans HW0.out (by rw [hg];exact (keep_size (w:=w) (g:=g) (row:=none) (zK HK)) : w.heap.size≤gb134) : w0.heap.size≤gb134))
   have n8_:=Aside0.mk (zL hg BK122)
   have n9_:=Aside0.mk (zG hg BK122)
   have n10_:=Aside0.mk ((by rw [hg];exact Nat.ne_of_lt (Nat.lt_of_lt_of_le HGT.out (show KeepBut w _ g none from zK HK).1) : g≠gb134))
   have n11_:=Aside0.mk ((by rw [hg];exact Nat.ne_of_gt (Nat.lt_of_lt_of_le HGT.out (show KeepBut w _ g none from zK HK).1) : gb134≠g))
   clear HO125
   clear HI0
   clear BK122
   clear HK
   clear HB
   have HO125:=n0_
   have HI0:=n1_
   have BK122:=n2_
   have HK:=n3_
   have HB:=n4_
   have BK134:=n5_
   have GW134:=n6_
   have GE134:=n7_
   have NB122_134:=n8_
   have NB134_122:=n9_
   have NB0_134:=n10_
   have NB134_0:=n11_
   clear n0_ n1_ n2_ n3_ n4_ n5_ n6_ n7_ n8_ n9_ n10_ n11_
   clear hb hbox hg
   refine hK.out _ _ ⟨HS0_,HS1_⟩ (fun hHeld=>?_)
   clear hK K
   refine norm_ (a':=?_) ?_ ?_
   rotate_left
   ·show Act.put _ (some 4) _=_
    simp only [Act.put,List.setIfInBounds_toArray,List.set_cons_zero,List.set_cons_succ,i64_w,i32_w]
    rfl
   refine one_ (i:=2) (N:=some 8) #[true,true,true,false,false,true,true,false,false,false,true,false,false,true,false] rfl rfl (one_of HT_.out zk) (by decide) (fun K hK=>?_)
   refine goes_ Try.func30 zk rfl #[.pointer (some ⟨g,0,none⟩),.int .i64 7] (by rfl) rfl rfl zA ?_
   with_reducible refine (soundservicemade_Dice_Next.calls g s0_0 7 t126 t127 w0 _ ?side1 ?side2 A2.out).mono ?_
   (case side1=>exact zJ HI0)
   (case side2=>exact zI HB HI0)
   rintro e w16 ⟨rfl,hi,hb,hk⟩
   have HS0_:=keep_cell hk (hHeld.1) (by first|(rw [add_block];exact Kd.own_blk (IsS65.own_ne HI0.out HO125.out (by decide)))|(show (Addr.add _ _).block≠_;rw [add_block];exact Kd.own_blk (IsS65.own_ne HI0.out HO125.out (by decide)))|exact Kd.own_blk (IsS65.own_ne HI0.out HO125.out (by decide)))
   have HS1_:=keep_cell hk (hHeld.2) (by first|(rw [add_block];exact Kd.own_blk (IsS65.own_ne HI0.out HO125.out (by decide)))|(show (Addr.add _ _).block≠_;rw [add_block];exact Kd.own_blk (IsS65.own_ne HI0.out HO125.out (by decide)))|exact Kd.own_blk (IsS65.own_ne HI0.out HO125.out (by decide)))
   refine ⟨_,rfl,?_⟩
   have n0_:=Aside0.mk (KeepBut.blk hk (g':=gb122) (o:=.cells #[.int .i64 0,.int .i64 0,.int .i64 0,.int .i64 0] 35 (0,0)) (zB BK122) NB122_0.out (by simp))
   have n1_:=Aside0.mk (Kd.R_mono (Kd.R_keep (IsS65.apart (show IsS65 w0 _ g s0_0 from zJ HI0) (zR HO125) (by decide)) hk (fun _ h=>h.2)) (fun _ h=>h.1))
   have n2_:=Aside0.mk (KeepBut.blk hk (g':=gb134) (o:=.cells #[.int .i64 0,.int .i64 0,.int .i64 0,.int .i64 0] 35 (0,0)) (zB BK134) NB134_0.out (by simp))
   have n3_:=Aside0.mk (KeepBut.trans (zK HK) hk (.inl rfl))
   have n4_:=Aside0.mk hb
   have n5_:=Aside0.mk hi
   clear BK122
   clear HO125
   clear BK134
   clear HK
   clear HB
   clear HI0
   have BK122:=n0_
   have HO125:=n1_
   have BK134:=n2_
   have HK:=n3_
   have HB:=n4_
   have HI0:=n5_
   clear n0_ n1_ n2_ n3_ n4_ n5_
   (try clear hb)
   (try clear hb2)
   (try clear hk)
   (try clear hi)
   (try clear hgw)
   refine hK.out _ _ ⟨HS0_,HS1_⟩ (fun hHeld=>?_)
   clear hK K
   refine norm_ (a':=?_) ?_ ?_
   rotate_left
   ·show Act.put _ (some 8) _=_
    simp only [Act.put,List.setIfInBounds_toArray,List.set_cons_zero,List.set_cons_succ,i64_w,i32_w]
    rfl
   refine pure_ (i:=3) (N:=some 9) (v:=?_) (a':=?_) #[true,true,true,true,false,true,true,false,false,false,true,false,false,true,false] rfl rfl (any_of HT_.out zk) (fun _ _ _ h=>h) (Or.inl ⟨by rfl,?_⟩) ?_ ?_
   rotate_left
   ·intro w'
    go_simp
    with_reducible rfl
   rotate_left
   ·simp only [Act.put,List.setIfInBounds_toArray,List.set_cons_zero,List.set_cons_succ,i64_w,i32_w]
    rfl
   refine take_ (i:=4) (N:=some 10) (v:=?_) (a':=?_) #[true,true,true,true,true,true,true,false,false,false,true,false,false,true,false] rfl rfl (take_ofW HT_.out HW_.out zk) (fun _ _ _ h=>h) (Or.inl ⟨by rfl,?_⟩) hHeld ?_ ?_
   rotate_left
   ·rintro w' ⟨s0,s1⟩
    go_simp
    with_reducible rfl
   rotate_left
   ·simp only [Act.put,List.setIfInBounds_toArray,List.set_cons_zero,List.set_cons_succ,i64_w,i32_w]
    rfl
   refine one_ (i:=7) (N:=some 13) #[true,true,true,true,true,true,true,true,false,false,true,false,false,true,false] rfl rfl (one_of HT_.out zk) (by decide) (fun K hK=>?_)
   refine goes_ Try.func30 zk rfl #[.pointer (some ⟨g,0,none⟩),.int .i64 7] (by rfl) rfl rfl zA ?_
   with_reducible refine (soundservicemade_Dice_Next.calls g t127 7 t129 t130 w0 _ ?side1 ?side2 A5.out).mono ?_
   (case side1=>exact zJ HI0)
   (case side2=>exact zI HB HI0)
   rintro e w17 ⟨rfl,hi,hb,hk⟩
   have HS0_:=keep_cell hk (hHeld.1) (by first|(rw [add_block];exact Kd.own_blk (IsS65.own_ne HI0.out HO125.out (by decide)))|(show (Addr.add _ _).block≠_;rw [add_block];exact Kd.own_blk (IsS65.own_ne HI0.out HO125.out (by decide)))|exact Kd.own_blk (IsS65.own_ne HI0.out HO125.out (by decide)))
   have HS1_:=keep_cell hk (hHeld.2) (by first|(rw [add_block];exact Kd.own_blk (IsS65.own_ne HI0.out HO125.out (by decide)))|(show (Addr.add _ _).block≠_;rw [add_block];exact Kd.own_blk (IsS65.own_ne HI0.out HO125.out (by decide)))|exact Kd.own_blk (IsS65.own_ne HI0.out HO125.out (by decide)))
   refine ⟨_,rfl,?_⟩
   have n0_:=Aside0.mk (KeepBut.blk hk (g':=gb122) (o:=.cells #[.int .i64 0,.int .i64 0,.int .i64 0,.int .i64 0] 35 (0,0)) (zB BK122) NB122_0.out (by simp))
   have n1_:=Aside0.mk (Kd.R_mono (Kd.R_keep (IsS65.apart (show IsS65 w0 _ g t127 from zJ HI0) (zR HO125) (by decide)) hk (fun _ h=>h.2)) (fun _ h=>h.1))
   have n2_:=Aside0.mk (KeepBut.blk hk (g':=gb134) (o:=.cells #[.int .i64 0,.int .i64 0,.int .i64 0,.int .i64 0] 35 (0,0)) (zB BK134) NB134_0.out (by simp))
   have n3_:=Aside0.mk (KeepBut.trans (zK HK) hk (.inl rfl))
   have n4_:=Aside0.mk hb
   have n5_:=Aside0.mk hi
   clear BK122
   clear HO125
   clear BK134
   clear HK
   clear HB
   clear HI0
   have BK122:=n0_
   have HO125:=n1_
   have BK134:=n2_
   have HK:=n3_
   have HB:=n4_
   have HI0:=n5_
   clear n0_ n1_ n2_ n3_ n4_ n5_
   (try clear hb)
   (try clear hb2)
   (try clear hk)
   (try clear hi)
   (try clear hgw)
   refine hK.out _ _ ⟨HS0_,HS1_⟩ (fun hHeld=>?_)
   clear hK K
   refine norm_ (a':=?_) ?_ ?_
   rotate_left
   ·show Act.put _ (some 13) _=_
    simp only [Act.put,List.setIfInBounds_toArray,List.set_cons_zero,List.set_cons_succ,i64_w,i32_w]
    rfl
   refine pure_ (i:=8) (N:=some 14) (v:=?_) (a':=?_) #[true,true,true,true,true,true,true,true,true,false,true,false,false,true,false] rfl rfl (any_of HT_.out zk) (fun _ _ _ h=>h) (Or.inl ⟨by rfl,?_⟩) ?_ ?_
   rotate_left
   ·intro w'
    go_simp
    with_reducible rfl
   rotate_left
   ·simp only [Act.put,List.setIfInBounds_toArray,List.set_cons_zero,List.set_cons_succ,i64_w,i32_w]
    rfl
   refine take_ (i:=9) (N:=some 15) (v:=?_) (a':=?_) #[true,true,true,true,true,true,true,true,true,true,true,false,false,true,false] rfl rfl (take_ofW HT_.out HW_.out zk) (fun _ _ _ h=>h) (Or.inl ⟨by rfl,?_⟩) hHeld ?_ ?_
   rotate_left
   ·rintro w' ⟨s0,s1⟩
    go_simp
    with_reducible rfl
   rotate_left
   ·simp only [Act.put,List.setIfInBounds_toArray,List.set_cons_zero,List.set_cons_succ,i64_w,i32_w]
    rfl
   refine one_ (i:=11) (N:=some 17) #[true,true,true,true,true,true,true,true,true,true,true,true,false,true,false] rfl rfl (one_of HT_.out zk) (by decide) (fun K hK=>?_)
   refine goes_ Try.func30 zk rfl #[.pointer (some ⟨g,0,none⟩),.int .i64 12] (by rfl) rfl rfl zA ?_
   with_reducible refine (soundservicemade_Dice_Next.calls g t130 12 t132 t133 w0 _ ?side1 ?side2 A8.out).mono ?_
   (case side1=>exact zJ HI0)
   (case side2=>exact zI HB HI0)
   rintro e w18 ⟨rfl,hi,hb,hk⟩
   have HS0_:=keep_cell hk (hHeld.1) (by first|(rw [add_block];exact Kd.own_blk (IsS65.own_ne HI0.out HO125.out (by decide)))|(show (Addr.add _ _).block≠_;rw [add_block];exact Kd.own_blk (IsS65.own_ne HI0.out HO125.out (by decide)))|exact Kd.own_blk (IsS65.own_ne HI0.out HO125.out (by decide)))
   have HS1_:=keep_cell hk (hHeld.2) (by first|(rw [add_block];exact Kd.own_blk (IsS65.own_ne HI0.out HO125.out (by decide)))|(show (Addr.add _ _).block≠_;rw [add_block];exact Kd.own_blk (IsS65.own_ne HI0.out HO125.out (by decide)))|exact Kd.own_blk (IsS65.own_ne HI0.out HO125.out (by decide)))
   refine ⟨_,rfl,?_⟩
   have n0_:=Aside0.mk (KeepBut.blk hk (g':=gb122) (o:=.cells #[.int .i64 0,.int .i64 0,.int .i64 0,.int .i64 0] 35 (0,0)) (zB BK122) NB122_0.out (by simp))
   have n1_:=Aside0.mk (Kd.R_mono (Kd.R_keep (IsS65.apart (show IsS65 w0 _ g t130 from zJ HI0) (zR HO125) (by decide)) hk (fun _ h=>h.2)) (fun _ h=>h.1))
   have n2_:=Aside0.mk (KeepBut.blk hk (g':=gb134) (o:=.cells #[.int .i64 0,.int .i64 0,.int .i64 0,.int .i64 0] 35 (0,0)) (zB BK134) NB134_0.out (by simp))
   have n3_:=Aside0.mk (KeepBut.trans (zK HK) hk (.inl rfl))
   have n4_:=Aside0.mk hb
   have n5_:=Aside0.mk hi
   clear BK122
   clear HO125
   clear BK134
   clear HK
   clear HB
   clear HI0
   have BK122:=n0_
   have HO125:=n1_
   have BK134:=n2_
   have HK:=n3_
   have HB:=n4_
   have HI0:=n5_
   clear n0_ n1_ n2_ n3_ n4_ n5_
   (try clear hb)
   (try clear hb2)
   (try clear hk)
   (try clear hi)
   (try clear hgw)
   refine hK.out _ _ ⟨HS0_,HS1_⟩ (fun hHeld=>?_)
   clear hK K
   refine norm_ (a':=?_) ?_ ?_
   rotate_left
   ·show Act.put _ (some 17) _=_
    simp only [Act.put,List.setIfInBounds_toArray,List.set_cons_zero,List.set_cons_succ,i64_w,i32_w]
    rfl
   refine pure_ (i:=12) (N:=some 18) (v:=?_) (a':=?_) #[true,true,true,true,true,true,true,true,true,true,true,true,true,true,false] rfl rfl (any_of HT_.out zk) (fun _ _ _ h=>h) (Or.inl ⟨by rfl,?_⟩) ?_ ?_
   rotate_left
   ·intro w'
    go_simp
    with_reducible rfl
   rotate_left
   ·simp only [Act.put,List.setIfInBounds_toArray,List.set_cons_zero,List.set_cons_succ,i64_w,i32_w]
    rfl
   exact norm_ (by simp only [putAll,Act.put,List.setIfInBounds_toArray,List.set_cons_zero,List.set_cons_succ]) (hCont (gb134) _ ⟨hHeld,(zR HO125),(zB BK122),(zB BK134),GW134.out,GE134.out,NB0_134.out,NB134_0.out,NB122_134.out,NB134_122.out,(zJ HI0),(zK HK),(zI HB HI0)⟩)
 rintro gb134 w19 ⟨hS_,h0_,h1_,h2_,h3_,h4_,h5_,h6_,h7_,h8_,h9_,h10_,h11_⟩
 have n0_ : Aside0 (Kd.R (Kd.int .i64) 3 w19 w.heap.size (fun _=>True) (.slice (some ad128) y123.length co13) y123):=⟨h0_⟩
 have n1_ : Aside0 (w19.heap[gb122]?=some (.cells #[.int .i64 0,.int .i64 0,.int .i64 0,.int .i64 0] 35 (0,0))):=⟨h1_⟩
 have n2_ : Aside0 (w19.heap[gb134]?=some (.cells #[.int .i64 0,.int .i64 0,.int .i64 0,.int .i64 0] 35 (0,0))):=⟨h2_⟩
 have n3_ : Aside0 (w.heap.size≤gb134):=⟨h3_⟩
 have n4_ : Aside0 (w0.heap.size≤gb134):=⟨h4_⟩
 have n5_ : Aside0 (g≠gb134):=⟨h5_⟩
 have n6_ : Aside0 (gb134≠g):=⟨h6_⟩
 have n7_ : Aside0 (gb122≠gb134):=⟨h7_⟩
 have n8_ : Aside0 (gb134≠gb122):=⟨h8_⟩
 have n9_ : Aside0 (IsS65 w0 w19 g t133):=⟨h9_⟩
 have n10_ : Aside0 (KeepBut w w19 g none):=⟨h10_⟩
 have n11_ : Aside0 (Below w0.heap.size w0 w19):=⟨h11_⟩
 clear HO125
 clear BK122
 clear HI0
 clear HK
 clear HB
 clear h0_ h1_ h2_ h3_ h4_ h5_ h6_ h7_ h8_ h9_ h10_ h11_
 have HO125:=n0_
 have BK122:=n1_
 have BK134:=n2_
 have GW134:=n3_
 have GE134:=n4_
 have NB0_134:=n5_
 have NB134_0:=n6_
 have NB122_134:=n7_
 have NB134_122:=n8_
 have HI0:=n9_
 have HK:=n10_
 have HB:=n11_
 clear n0_ n1_ n2_ n3_ n4_ n5_ n6_ n7_ n8_ n9_ n10_ n11_
 have hHeld : w19.cell? (ad128.add (t126).toNat)=some (.int .i64 (rd y123 t126))∧w19.cell? (ad128.add (t129).toNat)=some (.int .i64 (rd y123 t129)):=hS_
 refine norm_ (a':=?_) ?_ ?_
 rotate_left
 ·simp only [putAll,Act.put,List.setIfInBounds_toArray,List.set_cons_zero,List.set_cons_succ]
  rfl
 refine one_ (i:=14) (N:=none) #[true,true,true,true,true,true,true,true,true,true,true,true,true,true,true] rfl rfl (one_of HT_.out zk) (by decide) (fun K hK=>?_)
 have hs20:=zc BK134 0 (.int .i64 0) rfl
 have hfs20:=blk_frozen BK134.out 0
 have hns20_0:=NB122_134.out
 have hms20_0:=NB134_122.out
 have hs21:=zc BK134 1 (.int .i64 0) rfl
 have hfs21:=blk_frozen BK134.out 1
 have hns21_0:=NB122_134.out
 have hms21_0:=NB134_122.out
 have hs22:=zc BK134 2 (.int .i64 0) rfl
 have hfs22:=blk_frozen BK134.out 2
 have hns22_0:=NB122_134.out
 have hms22_0:=NB134_122.out
 have hs23:=zc BK134 3 (.int .i64 0) rfl
 have hfs23:=blk_frozen BK134.out 3
 have hns23_0:=NB122_134.out
 have hms23_0:=NB134_122.out
 refine skip_ (w1:=?_) (by rfl) rfl ?_ ?_
 rotate_left
 ·go_simp
  rfl
 refine hK.out _ _ ⟨((cell_far (p:=⟨gb134,_,none⟩) (by first|exact Kd.own_blk (Kd.R_ne HO125.out BK134.out (by decide))|(rw [add_block];exact Kd.own_blk (Kd.R_ne HO125.out BK134.out (by decide)))|(show (Addr.add _ _).block≠_;rw [add_block];exact Kd.own_blk (Kd.R_ne HO125.out BK134.out (by decide)))|(dsimp only;exact Kd.own_blk (Kd.R_ne HO125.out BK134.out (by decide)))) _).trans (((cell_far (p:=⟨gb134,_,none⟩) (by first|exact Kd.own_blk (Kd.R_ne HO125.out BK134.out (by decide))|(rw [add_block];exact Kd.own_blk (Kd.R_ne HO125.out BK134.out (by decide)))|(show (Addr.add _ _).block≠_;rw [add_block];exact Kd.own_blk (Kd.R_ne HO125.out BK134.out (by decide)))|(dsimp only;exact Kd.own_blk (Kd.R_ne HO125.out BK134.out (by decide)))) _).trans (((cell_far (p:=⟨gb134,_,none⟩) (by first|exact Kd.own_blk (Kd.R_ne HO125.out BK134.out (by decide))|(rw [add_block];exact Kd.own_blk (Kd.R_ne HO125.out BK134.out (by decide)))|(show (Addr.add _ _).block≠_;rw [add_block];exact Kd.own_blk (Kd.R_ne HO125.out BK134.out (by decide)))|(dsimp only;exact Kd.own_blk (Kd.R_ne HO125.out BK134.out (by decide)))) _).trans (((cell_far (p:=⟨gb134,_,none⟩) (by first|exact Kd.own_blk (Kd.R_ne HO125.out BK134.out (by decide))|(rw [add_block];exact Kd.own_blk (Kd.R_ne HO125.out BK134.out (by decide)))|(show (Addr.add _ _).block≠_;rw [add_block];exact Kd.own_blk (Kd.R_ne HO125.out BK134.out (by decide)))|(dsimp only;exact Kd.own_blk (Kd.R_ne HO125.out BK134.out (by decide)))) _).trans (hHeld.1)))))))),((cell_far (p:=⟨gb134,_,none⟩) (by first|exact Kd.own_blk (Kd.R_ne HO125.out BK134.out (by decide))|(rw [add_block];exact Kd.own_blk (Kd.R_ne HO125.out BK134.out (by decide)))|(show (Addr.add _ _).block≠_;rw [add_block];exact Kd.own_blk (Kd.R_ne HO125.out BK134.out (by decide)))|(dsimp only;exact Kd.own_blk (Kd.R_ne HO125.out BK134.out (by decide)))) _).trans (((cell_far (p:=⟨gb134,_,none⟩) (by first|exact Kd.own_blk (Kd.R_ne HO125.out BK134.out (by decide))|(rw [add_block];exact Kd.own_blk (Kd.R_ne HO125.out BK134.out (by decide)))|(show (Addr.add _ _).block≠_;rw [add_block];exact Kd.own_blk (Kd.R_ne HO125.out BK134.out (by decide)))|(dsimp only;exact Kd.own_blk (Kd.R_ne HO125.out BK134.out (by decide)))) _).trans (((cell_far (p:=⟨gb134,_,none⟩) (by first|exact Kd.own_blk (Kd.R_ne HO125.out BK134.out (by decide))|(rw [add_block];exact Kd.own_blk (Kd.R_ne HO125.out BK134.out (by decide)))|(show (Addr.add _ _).block≠_;rw [add_block];exact Kd.own_blk (Kd.R_ne HO125.out BK134.out (by decide)))|(dsimp only;exact Kd.own_blk (Kd.R_ne HO125.out BK134.out (by decide)))) _).trans (((cell_far (p:=⟨gb134,_,none⟩) (by first|exact Kd.own_blk (Kd.R_ne HO125.out BK134.out (by decide))|(rw [add_block];exact Kd.own_blk (Kd.R_ne HO125.out BK134.out (by decide)))|(show (Addr.add _ _).block≠_;rw [add_block];exact Kd.own_blk (Kd.R_ne HO125.out BK134.out (by decide)))|(dsimp only;exact Kd.own_blk (Kd.R_ne HO125.out BK134.out (by decide)))) _).trans (hHeld.2))))))))⟩ (fun hHeld=>?_)
 clear hK K
 refine done_ (done_of HT_.out zk) ?_
 have hnb24:=NB134_122.out
 have hnc24:=NB122_134.out
 have hnb25:=NB134_0.out
 have hnc25:=NB0_134.out
 have hcz26_0:=zc BK134 0 (.int .i64 0) rfl
 have hcz26_1:=zc BK134 1 (.int .i64 0) rfl
 have hcz26_2:=zc BK134 2 (.int .i64 0) rfl
 have hcz26_3:=zc BK134 3 (.int .i64 0) rfl
 have hfz26_0:=blk_frozen BK134.out 0
 have hfz26_1:=blk_frozen BK134.out 1
 have hfz26_2:=blk_frozen BK134.out 2
 have hfz26_3:=blk_frozen BK134.out 3
 try go_wp2_with (first|((with_reducible refine gate_callee (f:=30) rfl ?_);refine goesL_ (some 23) rfl rfl Try.func30 zk rfl #[.pointer (some ⟨g,0,none⟩),.int .i64 (wrap64 (t132+1))] rfl zA ?_;(with_reducible refine (soundservicemade_Dice_Next.calls g t133 (wrap64 (t132+1)) t135 t136 w0 _ ?side1 ?side2 A9.out).mono ?_);(case side1=>exact zJ HI0);(case side2=>exact zI HB HI0);rintro e w27 ⟨rfl,hi,hb,hk⟩;refine ⟨_,rfl,?_⟩;replace BK122:=Aside0.mk (KeepBut.blk hk (g':=gb122) (o:=.cells #[.int .i64 0,.int .i64 0,.int .i64 0,.int .i64 0] 35 (0,0)) (zB BK122) NB122_0.out (by simp));replace HO125:=Aside0.mk (Kd.R_mono (Kd.R_keep (IsS65.apart (show IsS65 w0 _ g t133 from zJ HI0) (by (with_reducible repeat (first|apply Kd.R_alloc|apply Kd.R_drewN|apply Kd.R_drew));exact (Kd.R_mono (Kd.R_far (p:=⟨gb134,3,none⟩) (Kd.R_far (p:=⟨gb134,2,none⟩) (Kd.R_far (p:=⟨gb134,1,none⟩) (Kd.R_far (p:=⟨gb134,0,none⟩) (Kd.R_types HO125.out BK134.out (by decide)) (fun _ hk=>hk.2) (.int .i64 (rd y123 t126))) (fun _ hk=>hk.2) (.int .i64 (rd y123 t129))) (fun _ hk=>hk.2) (.int .i64 t132)) (fun _ hk=>hk.2) (.int .i64 0)) (fun _ h_=>h_.1))) (by decide)) hk (fun _ h=>h.2)) (fun _ h=>h.1));replace BK134:=Aside0.mk (KeepBut.blk hk (g':=gb134) (o:=.cells #[.int .i64 (rd y123 t126),.int .i64 (rd y123 t129),.int .i64 t132,.int .i64 0] 35 (0,0)) (zB BK134) NB134_0.out (by simp));replace HK:=Aside0.mk (KeepBut.trans (zK HK) hk (.inl rfl));replace HB:=Aside0.mk hb;replace HI0:=Aside0.mk hi;(try clear hb);(try clear hk);(try clear hi);have hcz28_0:=zc BK134 0 (.int .i64 (rd y123 t126)) rfl;have hcz28_1:=zc BK134 1 (.int .i64 (rd y123 t129)) rfl;have hcz28_2:=zc BK134 2 (.int .i64 t132) rfl;have hcz28_3:=zc BK134 3 (.int .i64 0) rfl;have hfz28_0:=blk_frozen BK134.out 0;have hfz28_1:=blk_frozen BK134.out 1;have hfz28_2:=blk_frozen BK134.out 2;have hfz28_3:=blk_frozen BK134.out 3;have hnb29:=NB122_0.out;have hnc29:=NB0_122.out;have hcz30_0:=zc BK122 0 (.int .i64 0) rfl;have hcz30_1:=zc BK122 1 (.int .i64 0) rfl;have hcz30_2:=zc BK122 2 (.int .i64 0) rfl;have hcz30_3:=zc BK122 3 (.int .i64 0) rfl;have hfz30_0:=blk_frozen BK122.out 0;have hfz30_1:=blk_frozen BK122.out 1;have hfz30_2:=blk_frozen BK122.out 2;have hfz30_3:=blk_frozen BK122.out 3))
 refine bodyPost_ret (results_cell_row rfl _ _ gb122 35 #[.int .i64 (rd y123 t126),.int .i64 (rd y123 t129),.int .i64 t132,.int .i64 t135] (0,0) _ rfl (zB BK122) Try.underlying35 rfl zk) rfl ?_
 exact ⟨zX,by repeat (first|(with_reducible first|exact HI0.out|apply IsS65.alloc|apply IsS65.drewN|apply IsS65.drew|apply IsS65.set_0|refine IsS65.far ?_ NB0_122.out _|refine IsS65.far ?_ NB0_134.out _)|exact HI0.out),by repeat (first|(with_reducible first|exact HB.out|apply below_alloc|apply pw_below_drewN|apply below_drew1|refine below_set ?_ (IsS65.ge HI0.out)|refine below_set ?_ GE122.out|refine below_set ?_ GE134.out)|exact HB.out),zK HK⟩

end Go.Proofs.Ytegodmjmoagajaa.QM
