-- Written by a program of this session, out of the seat's translation; checked by the kernel alone.
import Derived.Test.YtcnmemcclhahnaaQT0
import Derived.Test.YtcnmemcclhahnaaQT12
namespace Go.Proofs.Ytcnmemcclhahnaa.QT
open Go.RowKit Go.Proofs.YtcnmemcclhahnaaW.PrintWords Go.Proofs.YtcnmemcclhahnaaW.PrintLast Go.Proofs.YtcnmemcclhahnaaW.PrintMore
attribute [local go_sem] max2_int min2_int max_two min_two max_three min_three max_four min_four   -- for this text's walks alone
set_option linter.unusedVariables false
set_option linter.unusedSimpArgs false

/-! ### soundservicemade_Ramp: function 45 -/
def soundservicemade_Ramp.f (s0_0 : List Int) : Option (Int×Int×Int×Int×List Int):=(some (([65536,0,1,262144,32768,65535,70000] : List Int) : List Int)).bind fun y393=>((soundservicemade_Dice_Next.f s0_0 7).bind fun bt396=>(if 0≤bt396.1 then (if bt396.1<(y393.length : Int) then ((soundservicemade_Dice_Next.f bt396.2 7).bind fun bt399=>(if 0≤bt399.1 then (if bt399.1<(y393.length : Int) then ((soundservicemade_Dice_Next.f bt399.2 12).bind fun bt402=>((soundservicemade_Dice_Next.f bt402.2 (wrap64 (bt402.1+1))).bind fun bt405=>(some (rd y393 bt396.1,rd y393 bt399.1,bt402.1,bt405.1,bt405.2)))) else (none)) else (none))) else (none)) else (none)))
def soundservicemade_Ramp.T2 : Bool×List (List Nat×List Nat):=(true,[([],[]),([],[]),([1],[1]),([0,2],[0,2]),([3],[3]),([],[]),([],[]),([6,2],[6]),([5,7],[5,7]),([8],[8]),([],[]),([10,7],[10]),([4,9,11],[4,9,11]),([],[]),([13,12,11,0,1,2,3,4,5,6,7,8,9,10,11,12,13],[12,13])])
def soundservicemade_Ramp.B2 : List Nat:=[0,0,2,7,15,0,0,70,230,486,0,1222,4095,0,16383]
theorem soundservicemade_Ramp.tab2 : rtab .any (opsOf Try.f45 2)=soundservicemade_Ramp.T2:=by kernel_rfl
theorem soundservicemade_Ramp.bits2 : waitsOk soundservicemade_Ramp.T2.2 soundservicemade_Ramp.B2=true:=by kernel_rfl
set_option maxHeartbeats 8000000 in
set_option maxRecDepth 100000 in
theorem soundservicemade_Ramp.calls (g : Nat) (s0_0 : List Int) (r1 : Int) (r2 : Int) (r3 : Int) (r4 : Int) (r5 : List Int) (w0 w : World) (hI : IsS71 w0 w g s0_0) (hB : Below w0.heap.size w0 w) (h : soundservicemade_Ramp.f s0_0=some (r1,r2,r3,r4,r5)) :
  Calls Try.prog 45 #[.pointer (some ⟨g,0,none⟩)] w fun e w'=>e = .returned (.agg #[.int .i64 r1,.int .i64 r2,.int .i64 r3,.int .i64 r4])∧IsS71 w0 w' g r5∧Below w0.heap.size w0 w'∧KeepBut w w' g none:=by
 have hu52:=Try.underlying52
 have HGT:=Aside0.mk (IsS71.lt hI)
 have HI0:=Aside0.mk hI
 have HK:=Aside0.mk (KeepBut.refl w g none)
 have HL:=Aside0.mk hB.size
 clear hI
 have HW0:=Aside0.mk hB.size
 have HB:=Aside0.mk hB
 clear hB
 have H : ((some (([65536,0,1,262144,32768,65535,70000] : List Int) : List Int)).bind fun y393=>((soundservicemade_Dice_Next.f s0_0 7).bind fun bt396=>(if 0≤bt396.1 then (if bt396.1<(y393.length : Int) then ((soundservicemade_Dice_Next.f bt396.2 7).bind fun bt399=>(if 0≤bt399.1 then (if bt399.1<(y393.length : Int) then ((soundservicemade_Dice_Next.f bt399.2 12).bind fun bt402=>((soundservicemade_Dice_Next.f bt402.2 (wrap64 (bt402.1+1))).bind fun bt405=>(some (rd y393 bt396.1,rd y393 bt399.1,bt402.1,bt405.1,bt405.2)))) else (none)) else (none))) else (none)) else (none))))=some (r1,r2,r3,r4,r5):=h
 clear h
 obtain ⟨y393,hy393⟩ : ∃ y_ : List Int,y_=(([65536,0,1,262144,32768,65535,70000] : List Int)):=⟨_,rfl⟩
 replace H : ((soundservicemade_Dice_Next.f s0_0 7).bind fun bt396=>(if 0≤bt396.1 then (if bt396.1<(y393.length : Int) then ((soundservicemade_Dice_Next.f bt396.2 7).bind fun bt399=>(if 0≤bt399.1 then (if bt399.1<(y393.length : Int) then ((soundservicemade_Dice_Next.f bt399.2 12).bind fun bt402=>((soundservicemade_Dice_Next.f bt402.2 (wrap64 (bt402.1+1))).bind fun bt405=>(some (rd y393 bt396.1,rd y393 bt399.1,bt402.1,bt405.1,bt405.2)))) else (none)) else (none))) else (none)) else (none)))=some (r1,r2,r3,r4,r5):=by first|(rw [hy393];with_reducible exact H)|(have H2_:=(Option.bind_some _ _).symm.trans H;rw [hy393];with_reducible exact H2_)|(have H2_:=(Option.bind_some _ _).symm.trans H;with_reducible exact H2_)|with_reducible exact H|(rw [hy393];exact H)|exact H
 have Ny393:=Aside0.mk hy393
 clear hy393
 replace H:=Option.bind_eq_some_iff.mp H
 obtain ⟨⟨t396,t397⟩,A20,H⟩:=H
 replace H : (if 0≤t396 then (if t396<(y393.length : Int) then ((soundservicemade_Dice_Next.f t397 7).bind fun bt399=>(if 0≤bt399.1 then (if bt399.1<(y393.length : Int) then ((soundservicemade_Dice_Next.f bt399.2 12).bind fun bt402=>((soundservicemade_Dice_Next.f bt402.2 (wrap64 (bt402.1+1))).bind fun bt405=>(some (rd y393 t396,rd y393 bt399.1,bt402.1,bt405.1,bt405.2)))) else (none)) else (none))) else (none)) else (none))=some (r1,r2,r3,r4,r5):=H
 have A2:=Aside0.mk A20
 clear A20
 by_cases c3 : 0≤t396
 rotate_left
 ·rw [if_neg c3] at H
  exact absurd H (by simp)
 rw [if_pos c3] at H
 have c3b0 : decide (0≤t396)=true:=decide_eq_true c3
 clear c3
 by_cases c4 : t396<(y393.length : Int)
 rotate_left
 ·rw [if_neg c4] at H
  exact absurd H (by simp)
 rw [if_pos c4] at H
 have c4b0 : decide (t396<(y393.length : Int))=true:=decide_eq_true c4
 clear c4
 replace H:=Option.bind_eq_some_iff.mp H
 obtain ⟨⟨t399,t400⟩,A50,H⟩:=H
 replace H : (if 0≤t399 then (if t399<(y393.length : Int) then ((soundservicemade_Dice_Next.f t400 12).bind fun bt402=>((soundservicemade_Dice_Next.f bt402.2 (wrap64 (bt402.1+1))).bind fun bt405=>(some (rd y393 t396,rd y393 t399,bt402.1,bt405.1,bt405.2)))) else (none)) else (none))=some (r1,r2,r3,r4,r5):=H
 have A5:=Aside0.mk A50
 clear A50
 by_cases c6 : 0≤t399
 rotate_left
 ·rw [if_neg c6] at H
  exact absurd H (by simp)
 rw [if_pos c6] at H
 have c6b0 : decide (0≤t399)=true:=decide_eq_true c6
 clear c6
 by_cases c7 : t399<(y393.length : Int)
 rotate_left
 ·rw [if_neg c7] at H
  exact absurd H (by simp)
 rw [if_pos c7] at H
 have c7b0 : decide (t399<(y393.length : Int))=true:=decide_eq_true c7
 clear c7
 replace H:=Option.bind_eq_some_iff.mp H
 obtain ⟨⟨t402,t403⟩,A80,H⟩:=H
 replace H : ((soundservicemade_Dice_Next.f t403 (wrap64 (t402+1))).bind fun bt405=>(some (rd y393 t396,rd y393 t399,t402,bt405.1,bt405.2)))=some (r1,r2,r3,r4,r5):=H
 have A8:=Aside0.mk A80
 clear A80
 replace H:=Option.bind_eq_some_iff.mp H
 obtain ⟨⟨t405,t406⟩,A90,H⟩:=H
 replace H : (some (rd y393 t396,rd y393 t399,t402,t405,t406))=some (r1,r2,r3,r4,r5):=H
 have A9:=Aside0.mk A90
 clear A90
 simp only [Option.some.injEq,Prod.mk.injEq] at H
 obtain ⟨rfl,rfl,rfl,rfl,rfl⟩:=H
 go_enter Try.func45,Try.ntmps45
 try go_wp2_with (first|((with_reducible refine gate_dst (N:=2) rfl ?_);refine box_event ?hg (N:=2) ?hd (cs:=#[.int .i64 0,.int .i64 0,.int .i64 0,.int .i64 0]) (t:=52) ?hr ?_;(case hd=>rfl);(case hg=>rfl);(case hr=>first|(go_simp;done)|(go_simp;rfl));intro gb392 hg w10 hbox hb;replace HB:=Aside0.mk (below_step (zI HB HI0) hb);replace HI0:=Aside0.mk (IsS71.below (zJ HI0) hb);have BK392:=Aside0.mk hbox;have GW392:=Aside0.mk ((by rw [hg];exact (keep_size (w:=w) (g:=g) (row:=none) (zK HK)) : w.heap.size≤gb392));have GE392:=Aside0.mk ((Nat.le_trans HW0.out (by rw [hg];exact (keep_size (w:=w) (g:=g) (row:=none) (zK HK)) : w.heap.size≤gb392) : w0.heap.size≤gb392));have NB0_392:=Aside0.mk ((by rw [hg];exact Nat.ne_of_lt (Nat.lt_of_lt_of_le HGT.out (show KeepBut w _ g none from zK HK).1) : g≠gb392));have NB392_0:=Aside0.mk ((by rw [hg];exact Nat.ne_of_gt (Nat.lt_of_lt_of_le HGT.out (show KeepBut w _ g none from zK HK).1) : gb392≠g));replace HK:=Aside0.mk (KeepBut.trans (zK HK) (KeepBut.of_below hb g none) (.inl rfl));clear hb hbox hg)|((with_reducible refine gate_dst (N:=5) rfl ?_);refine Kd.R_lit (Kd.int .i64) _ 3 ?hg (N:=5) ?hd (xs:=([65536,0,1,262144,32768,65535,70000] : List Int)) (inner:=[.int .i64 65536,.int .i64 0,.int .i64 1,.int .i64 262144,.int .i64 32768,.int .i64 65535,.int .i64 70000]) (ok:=fun _=>True) (okp:=fun _=>True) ?hr ?hp (fun _ hk=>hk) trivial (Below.refl _ _) (Nat.le_refl _) (by simp) ?_;(case hd=>rfl);(case hg=>rfl);(case hr=>first|(go_simp;done)|(go_simp;rfl));(case hp=>exact (Reps.one (show Kd.M (Kd.int .i64) _ _ _ 65536 [.int .i64 65536] from rfl) (Reps.one (show Kd.M (Kd.int .i64) _ _ _ 0 [.int .i64 0] from rfl) (Reps.one (show Kd.M (Kd.int .i64) _ _ _ 1 [.int .i64 1] from rfl) (Reps.one (show Kd.M (Kd.int .i64) _ _ _ 262144 [.int .i64 262144] from rfl) (Reps.one (show Kd.M (Kd.int .i64) _ _ _ 32768 [.int .i64 32768] from rfl) (Reps.one (show Kd.M (Kd.int .i64) _ _ _ 65535 [.int .i64 65535] from rfl) (Reps.one (show Kd.M (Kd.int .i64) _ _ _ 70000 [.int .i64 70000] from rfl) (Reps.none _ _)))))))));intro v394 w11 ho12 hb hg_ hnew_;clear hg_ hnew_;(first|rw [← Ny393.out] at ho12|(simp only [Int.reduceToNat] at ho12;rw [← Ny393.out] at ho12));have HO395:=Aside0.mk (Kd.R_lower ho12 (keep_size (w:=w) (g:=g) (row:=none) (zK HK)));replace BK392:=Aside0.mk (blk_below (zB BK392) hb);replace HK:=Aside0.mk (KeepBut.trans (zK HK) (KeepBut.of_below hb g none) (.inl rfl));replace HB:=Aside0.mk (below_step (zI HB HI0) hb);replace HI0:=Aside0.mk (IsS71.below (zJ HI0) hb);clear hb ho12;obtain ⟨Ao13,co13,eo13⟩:=Kd.R_slice HO395.out;subst eo13))
 have n0_:=Aside0.mk (Kd.R_drew HO395.out)
 have n1_:=Aside0.mk (blk_drew BK392.out)
 have n2_:=Aside0.mk (IsS71.drew HI0.out)
 have n3_:=Aside0.mk (keep_drew HK.out)
 have n4_:=Aside0.mk (below_drew1 HB.out)
 clear HO395
 clear BK392
 clear HI0
 clear HK
 clear HB
 have HO395:=n0_
 have BK392:=n1_
 have HI0:=n2_
 have HK:=n3_
 have HB:=n4_
 clear n0_ n1_ n2_ n3_ n4_
 have p398 : 0≤(t396 : Int):=zD
 have q398 : t396<(y393.length : Int):=zD
 obtain ⟨ad398,e398,hx398_0⟩:=Kd.at_int (Kd.R_reads' HO395.out).2.2 t396 p398 q398
 cases e398
 replace p398:=eq_true p398
 replace q398:=eq_true q398
 have p401 : 0≤(t399 : Int):=zD
 have q401 : t399<(y393.length : Int):=zD
 obtain ⟨ad401,e401,hx401_0⟩:=Kd.at_int (Kd.R_reads' HO395.out).2.2 t399 p401 q401
 obtain rfl : ad398=ad401:=(by injection e401)
 replace p401:=eq_true p401
 replace q401:=eq_true q401
 refine start_ (n:=15) (S:=fun w'=>w'.cell? (ad398.add (t396).toNat)=some (.int .i64 (rd y393 t396))∧w'.cell? (ad398.add (t399).toNat)=some (.int .i64 (rd y393 t399))) (ds:=[]) #[false,false,false,false,false,false,false,false,false,false,false,false,false,false,false] zk rfl rfl ⟨hx398_0,hx401_0⟩ (fun hHeld=>?_);refine with_tabW soundservicemade_Ramp.tab2 soundservicemade_Ramp.bits2 (fun HT_ HW_=>?_)
 generalize w11.drew=w14 at HO395 BK392 HI0 HK HB hx398_0 hx401_0 hHeld ⊢
 refine pure_ (i:=0) (N:=some 6) (v:=?_) (a':=?_) #[true,false,false,false,false,false,false,false,false,false,false,false,false,false,false] rfl rfl (any_of HT_.out zk) (fun _ _ _ h=>h) (Or.inl ⟨by rfl,?_⟩) ?_ ?_
 rotate_left
 ·intro w'
  go_simp
  with_reducible rfl
 rotate_left
 ·simp only [Act.put,List.setIfInBounds_toArray,List.set_cons_zero,List.set_cons_succ,i64_w,i32_w]
  rfl
 refine pure_ (i:=1) (N:=some 7) (v:=?_) (a':=?_) #[true,true,false,false,false,false,false,false,false,false,false,false,false,false,false] rfl rfl (any_of HT_.out zk) (fun _ _ _ h=>h) (Or.inl ⟨by rfl,?_⟩) ?_ ?_
 rotate_left
 ·intro w'
  go_simp
  with_reducible rfl
 rotate_left
 ·simp only [Act.put,List.setIfInBounds_toArray,List.set_cons_zero,List.set_cons_succ,i64_w,i32_w]
  rfl
 refine pure_ (i:=5) (N:=some 11) (v:=?_) (a':=?_) #[true,true,false,false,false,true,false,false,false,false,false,false,false,false,false] rfl rfl (any_of HT_.out zk) (fun _ _ _ h=>h) (Or.inl ⟨by rfl,?_⟩) ?_ ?_
 rotate_left
 ·intro w'
  go_simp
  with_reducible rfl
 rotate_left
 ·simp only [Act.put,List.setIfInBounds_toArray,List.set_cons_zero,List.set_cons_succ,i64_w,i32_w]
  rfl
 refine pure_ (i:=6) (N:=some 12) (v:=?_) (a':=?_) #[true,true,false,false,false,true,true,false,false,false,false,false,false,false,false] rfl rfl (any_of HT_.out zk) (fun _ _ _ h=>h) (Or.inl ⟨by rfl,?_⟩) ?_ ?_
 rotate_left
 ·intro w'
  go_simp
  with_reducible rfl
 rotate_left
 ·simp only [Act.put,List.setIfInBounds_toArray,List.set_cons_zero,List.set_cons_succ,i64_w,i32_w]
  rfl
 refine pure_ (i:=10) (N:=some 16) (v:=?_) (a':=?_) #[true,true,false,false,false,true,true,false,false,false,true,false,false,false,false] rfl rfl (any_of HT_.out zk) (fun _ _ _ h=>h) (Or.inl ⟨by rfl,?_⟩) ?_ ?_
 rotate_left
 ·intro w'
  go_simp
  with_reducible rfl
 rotate_left
 ·simp only [Act.put,List.setIfInBounds_toArray,List.set_cons_zero,List.set_cons_succ,i64_w,i32_w]
  rfl
 refine join_ (σ:=Nat) 1 #[true,true,true,true,true,true,true,true,true,true,true,true,true,true,false] (fun s_=>[(8,.int .i64 t396),(13,.int .i64 t399),(17,.int .i64 t402),(4,.pointer (some ⟨s_,0,none⟩)),(9,.pointer (some (ad398.add (t396).toNat))),(10,.int .i64 (rd y393 t396)),(14,.pointer (some (ad398.add (t399).toNat))),(15,.int .i64 (rd y393 t399)),(18,.agg #[.int .i64 (rd y393 t396),.int .i64 (rd y393 t399),.int .i64 t402,.int .i64 0])]) (fun s_ w'=>(w'.cell? (ad398.add (t396).toNat)=some (.int .i64 (rd y393 t396))∧w'.cell? (ad398.add (t399).toNat)=some (.int .i64 (rd y393 t399)))∧(Kd.R (Kd.int .i64) 3 w' w.heap.size (fun _=>True) (.slice (some ad398) y393.length co13) y393)∧(w'.heap[gb392]?=some (.cells #[.int .i64 0,.int .i64 0,.int .i64 0,.int .i64 0] 52 (0,0)))∧(w'.heap[s_]?=some (.cells #[.int .i64 0,.int .i64 0,.int .i64 0,.int .i64 0] 52 (0,0)))∧(w.heap.size≤s_)∧(w0.heap.size≤s_)∧(g≠s_)∧(s_≠g)∧(gb392≠s_)∧(s_≠gb392)∧(IsS71 w0 w' g t403)∧(KeepBut w w' g none)∧(Below w0.heap.size w0 w')) ?_ ?_
 rotate_left
 ·intro hCont
  refine two_ (i:=2) (j:=13) (Ni:=some 8) (Nj:=some 4) #[true,true,true,false,false,true,true,false,false,false,true,false,false,false,false] #[true,true,false,false,false,true,true,false,false,false,true,false,false,true,false] rfl rfl rfl rfl (two_of HT_.out zk) (by decide) (by decide) (fun K hK=>?_) (fun K hK=>?_)
  ·skip
   refine goes_ Try.func11 zk rfl #[.pointer (some ⟨g,0,none⟩),.int .i64 7] (by rfl) rfl rfl zA ?_
   with_reducible refine (soundservicemade_Dice_Next.calls g s0_0 7 t396 t397 w0 _ ?side1 ?side2 A2.out).mono ?_
   (case side1=>exact zJ HI0)
   (case side2=>exact zI HB HI0)
   rintro e w15 ⟨rfl,hi,hb,hk⟩
   have HS0_:=keep_cell hk (hHeld.1) (by first|(rw [add_block];exact Kd.own_blk (IsS71.own_ne HI0.out HO395.out (by decide)))|(show (Addr.add _ _).block≠_;rw [add_block];exact Kd.own_blk (IsS71.own_ne HI0.out HO395.out (by decide)))|exact Kd.own_blk (IsS71.own_ne HI0.out HO395.out (by decide)))
   have HS1_:=keep_cell hk (hHeld.2) (by first|(rw [add_block];exact Kd.own_blk (IsS71.own_ne HI0.out HO395.out (by decide)))|(show (Addr.add _ _).block≠_;rw [add_block];exact Kd.own_blk (IsS71.own_ne HI0.out HO395.out (by decide)))|exact Kd.own_blk (IsS71.own_ne HI0.out HO395.out (by decide)))
   refine ⟨_,rfl,?_⟩
   have n0_:=Aside0.mk (KeepBut.blk hk (g':=gb392) (o:=.cells #[.int .i64 0,.int .i64 0,.int .i64 0,.int .i64 0] 52 (0,0)) (zB BK392) NB392_0.out (by simp))
   have n1_:=Aside0.mk (Kd.R_mono (Kd.R_keep (IsS71.apart (show IsS71 w0 _ g s0_0 from zJ HI0) (zR HO395) (by decide)) hk (fun _ h=>h.2)) (fun _ h=>h.1))
   have n2_:=Aside0.mk (KeepBut.trans (zK HK) hk (.inl rfl))
   have n3_:=Aside0.mk hb
   have n4_:=Aside0.mk hi
   clear BK392
   clear HO395
   clear HK
   clear HB
   clear HI0
   have BK392:=n0_
   have HO395:=n1_
   have HK:=n2_
   have HB:=n3_
   have HI0:=n4_
   clear n0_ n1_ n2_ n3_ n4_
   (try clear hb)
   (try clear hb2)
   (try clear hk)
   (try clear hi)
   (try clear hgw)
   refine hK.out _ _ ⟨HS0_,HS1_⟩ (fun hHeld=>?_)
   clear hK K
   refine norm_ (a':=?_) ?_ ?_
   rotate_left
   ·show Act.put _ (some 8) _=_
    simp only [Act.put,List.setIfInBounds_toArray,List.set_cons_zero,List.set_cons_succ,i64_w,i32_w]
    rfl
   refine pure_ (i:=3) (N:=some 9) (v:=?_) (a':=?_) #[true,true,true,true,false,true,true,false,false,false,true,false,false,false,false] rfl rfl (any_of HT_.out zk) (fun _ _ _ h=>h) (Or.inl ⟨by rfl,?_⟩) ?_ ?_
   rotate_left
   ·intro w'
    go_simp
    with_reducible rfl
   rotate_left
   ·simp only [Act.put,List.setIfInBounds_toArray,List.set_cons_zero,List.set_cons_succ,i64_w,i32_w]
    rfl
   refine take_ (i:=4) (N:=some 10) (v:=?_) (a':=?_) #[true,true,true,true,true,true,true,false,false,false,true,false,false,false,false] rfl rfl (take_ofW HT_.out HW_.out zk) (fun _ _ _ h=>h) (Or.inl ⟨by rfl,?_⟩) hHeld ?_ ?_
   rotate_left
   ·rintro w' ⟨s0,s1⟩
    go_simp
    with_reducible rfl
   rotate_left
   ·simp only [Act.put,List.setIfInBounds_toArray,List.set_cons_zero,List.set_cons_succ,i64_w,i32_w]
    rfl
   refine two_ (i:=7) (j:=13) (Ni:=some 13) (Nj:=some 4) #[true,true,true,true,true,true,true,true,false,false,true,false,false,false,false] #[true,true,true,true,true,true,true,false,false,false,true,false,false,true,false] rfl rfl rfl rfl (two_of HT_.out zk) (by decide) (by decide) (fun K hK=>?_) (fun K hK=>?_)
   ·skip
    refine goes_ Try.func11 zk rfl #[.pointer (some ⟨g,0,none⟩),.int .i64 7] (by rfl) rfl rfl zA ?_
    with_reducible refine (soundservicemade_Dice_Next.calls g t397 7 t399 t400 w0 _ ?side1 ?side2 A5.out).mono ?_
    (case side1=>exact zJ HI0)
    (case side2=>exact zI HB HI0)
    rintro e w16 ⟨rfl,hi,hb,hk⟩
    have HS0_:=keep_cell hk (hHeld.1) (by first|(rw [add_block];exact Kd.own_blk (IsS71.own_ne HI0.out HO395.out (by decide)))|(show (Addr.add _ _).block≠_;rw [add_block];exact Kd.own_blk (IsS71.own_ne HI0.out HO395.out (by decide)))|exact Kd.own_blk (IsS71.own_ne HI0.out HO395.out (by decide)))
    have HS1_:=keep_cell hk (hHeld.2) (by first|(rw [add_block];exact Kd.own_blk (IsS71.own_ne HI0.out HO395.out (by decide)))|(show (Addr.add _ _).block≠_;rw [add_block];exact Kd.own_blk (IsS71.own_ne HI0.out HO395.out (by decide)))|exact Kd.own_blk (IsS71.own_ne HI0.out HO395.out (by decide)))
    refine ⟨_,rfl,?_⟩
    have n0_:=Aside0.mk (KeepBut.blk hk (g':=gb392) (o:=.cells #[.int .i64 0,.int .i64 0,.int .i64 0,.int .i64 0] 52 (0,0)) (zB BK392) NB392_0.out (by simp))
    have n1_:=Aside0.mk (Kd.R_mono (Kd.R_keep (IsS71.apart (show IsS71 w0 _ g t397 from zJ HI0) (zR HO395) (by decide)) hk (fun _ h=>h.2)) (fun _ h=>h.1))
    have n2_:=Aside0.mk (KeepBut.trans (zK HK) hk (.inl rfl))
    have n3_:=Aside0.mk hb
    have n4_:=Aside0.mk hi
    clear BK392
    clear HO395
    clear HK
    clear HB
    clear HI0
    have BK392:=n0_
    have HO395:=n1_
    have HK:=n2_
    have HB:=n3_
    have HI0:=n4_
    clear n0_ n1_ n2_ n3_ n4_
    (try clear hb)
    (try clear hb2)
    (try clear hk)
    (try clear hi)
    (try clear hgw)
    refine hK.out _ _ ⟨HS0_,HS1_⟩ (fun hHeld=>?_)
    clear hK K
    refine norm_ (a':=?_) ?_ ?_
    rotate_left
    ·show Act.put _ (some 13) _=_
     simp only [Act.put,List.setIfInBounds_toArray,List.set_cons_zero,List.set_cons_succ,i64_w,i32_w]
     rfl
    refine pure_ (i:=8) (N:=some 14) (v:=?_) (a':=?_) #[true,true,true,true,true,true,true,true,true,false,true,false,false,false,false] rfl rfl (any_of HT_.out zk) (fun _ _ _ h=>h) (Or.inl ⟨by rfl,?_⟩) ?_ ?_
    rotate_left
    ·intro w'
     go_simp
     with_reducible rfl
    rotate_left
    ·simp only [Act.put,List.setIfInBounds_toArray,List.set_cons_zero,List.set_cons_succ,i64_w,i32_w]
     rfl
    refine take_ (i:=9) (N:=some 15) (v:=?_) (a':=?_) #[true,true,true,true,true,true,true,true,true,true,true,false,false,false,false] rfl rfl (take_ofW HT_.out HW_.out zk) (fun _ _ _ h=>h) (Or.inl ⟨by rfl,?_⟩) hHeld ?_ ?_
    rotate_left
    ·rintro w' ⟨s0,s1⟩
     go_simp
     with_reducible rfl
    rotate_left
    ·simp only [Act.put,List.setIfInBounds_toArray,List.set_cons_zero,List.set_cons_succ,i64_w,i32_w]
     rfl
    refine two_ (i:=11) (j:=13) (Ni:=some 17) (Nj:=some 4) #[true,true,true,true,true,true,true,true,true,true,true,true,false,false,false] #[true,true,true,true,true,true,true,true,true,true,true,false,false,true,false] rfl rfl rfl rfl (two_of HT_.out zk) (by decide) (by decide) (fun K hK=>?_) (fun K hK=>?_)
    ·skip
     refine goes_ Try.func11 zk rfl #[.pointer (some ⟨g,0,none⟩),.int .i64 12] (by rfl) rfl rfl zA ?_
     with_reducible refine (soundservicemade_Dice_Next.calls g t400 12 t402 t403 w0 _ ?side1 ?side2 A8.out).mono ?_
     (case side1=>exact zJ HI0)
     (case side2=>exact zI HB HI0)
     rintro e w17 ⟨rfl,hi,hb,hk⟩
     have HS0_:=keep_cell hk (hHeld.1) (by first|(rw [add_block];exact Kd.own_blk (IsS71.own_ne HI0.out HO395.out (by decide)))|(show (Addr.add _ _).block≠_;rw [add_block];exact Kd.own_blk (IsS71.own_ne HI0.out HO395.out (by decide)))|exact Kd.own_blk (IsS71.own_ne HI0.out HO395.out (by decide)))
     have HS1_:=keep_cell hk (hHeld.2) (by first|(rw [add_block];exact Kd.own_blk (IsS71.own_ne HI0.out HO395.out (by decide)))|(show (Addr.add _ _).block≠_;rw [add_block];exact Kd.own_blk (IsS71.own_ne HI0.out HO395.out (by decide)))|exact Kd.own_blk (IsS71.own_ne HI0.out HO395.out (by decide)))
     refine ⟨_,rfl,?_⟩
     have n0_:=Aside0.mk (KeepBut.blk hk (g':=gb392) (o:=.cells #[.int .i64 0,.int .i64 0,.int .i64 0,.int .i64 0] 52 (0,0)) (zB BK392) NB392_0.out (by simp))
     have n1_:=Aside0.mk (Kd.R_mono (Kd.R_keep (IsS71.apart (show IsS71 w0 _ g t400 from zJ HI0) (zR HO395) (by decide)) hk (fun _ h=>h.2)) (fun _ h=>h.1))
     have n2_:=Aside0.mk (KeepBut.trans (zK HK) hk (.inl rfl))
     have n3_:=Aside0.mk hb
     have n4_:=Aside0.mk hi
     clear BK392
     clear HO395
     clear HK
     clear HB
     clear HI0
     have BK392:=n0_
     have HO395:=n1_
     have HK:=n2_
     have HB:=n3_
     have HI0:=n4_
     clear n0_ n1_ n2_ n3_ n4_
     (try clear hb)
     (try clear hb2)
     (try clear hk)
     (try clear hi)
     (try clear hgw)
     refine hK.out _ _ ⟨HS0_,HS1_⟩ (fun hHeld=>?_)
     clear hK K
     refine norm_ (a':=?_) ?_ ?_
     rotate_left
     ·show Act.put _ (some 17) _=_
      simp only [Act.put,List.setIfInBounds_toArray,List.set_cons_zero,List.set_cons_succ,i64_w,i32_w]
      rfl
     refine pure_ (i:=12) (N:=some 18) (v:=?_) (a':=?_) #[true,true,true,true,true,true,true,true,true,true,true,true,true,false,false] rfl rfl (any_of HT_.out zk) (fun _ _ _ h=>h) (Or.inl ⟨by rfl,?_⟩) ?_ ?_
     rotate_left
     ·intro w'
      go_simp
      with_reducible rfl
     rotate_left
     ·simp only [Act.put,List.setIfInBounds_toArray,List.set_cons_zero,List.set_cons_succ,i64_w,i32_w]
      rfl
     refine one_ (i:=13) (N:=some 4) #[true,true,true,true,true,true,true,true,true,true,true,true,true,true,false] rfl rfl (one_of HT_.out zk) (by decide) (fun K hK=>?_)
     refine box_step ?hg (N:=4) ?hd (cs:=#[.int .i64 0,.int .i64 0,.int .i64 0,.int .i64 0]) (t:=52) ?hr ?_;(case hd=>rfl);(case hg=>rfl);(case hr=>first|(go_simp;done)|(go_simp;rfl))
     intro gb404 hg w18 hbox hb
     have HS0_:=(hb.cell (World.block_lt_of_cell? _ _ (hHeld.1))).trans (hHeld.1)
     have HS1_:=(hb.cell (World.block_lt_of_cell? _ _ (hHeld.2))).trans (hHeld.2)
     have n0_:=Aside0.mk (Kd.R_below (zR HO395) hb)
     have n1_:=Aside0.mk (IsS71.below (zJ HI0) hb)
     have n2_:=Aside0.mk (blk_below (zB BK392) hb)
     have n3_:=Aside0.mk (KeepBut.trans (zK HK) (KeepBut.of_below hb g none) (.inl rfl))
     have n4_:=Aside0.mk (below_step (zI HB HI0) hb)
     have n5_:=Aside0.mk hbox
     have n6_:=Aside0.mk ((by rw [hg];exact (keep_size (w:=w) (g:=g) (row:=none) (zK HK)) : w.heap.size≤gb404))
     have n7_:=Aside0.mk ((Nat.le_trans HW0.out (by rw [hg];exact (keep_size (w:=w) (g:=g) (row:=none) (zK HK)) : w.heap.size≤gb404) : w0.heap.size≤gb404))
     have n8_:=Aside0.mk (zL hg BK392)
     have n9_:=Aside0.mk (zG hg BK392)
     have n10_:=Aside0.mk ((by rw [hg];exact Nat.ne_of_lt (Nat.lt_of_lt_of_le HGT.out (show KeepBut w _ g none from zK HK).1) : g≠gb404))
     have n11_:=Aside0.mk ((by rw [hg];exact Nat.ne_of_gt (Nat.lt_of_lt_of_le HGT.out (show KeepBut w _ g none from zK HK).1) : gb404≠g))
     clear HO395
     clear HI0
     clear BK392
     clear HK
     clear HB
     have HO395:=n0_
     have HI0:=n1_
     have BK392:=n2_
     have HK:=n3_
     have HB:=n4_
     have BK404:=n5_
     have GW404:=n6_
     have GE404:=n7_
     have NB392_404:=n8_
     have NB404_392:=n9_
     have NB0_404:=n10_
     have NB404_0:=n11_
     clear n0_ n1_ n2_ n3_ n4_ n5_ n6_ n7_ n8_ n9_ n10_ n11_
     clear hb hbox hg
     refine hK.out _ _ ⟨HS0_,HS1_⟩ (fun hHeld=>?_)
     clear hK K
     refine norm_ (a':=?_) ?_ ?_
     rotate_left
     ·show Act.put _ (some 4) _=_
      simp only [Act.put,List.setIfInBounds_toArray,List.set_cons_zero,List.set_cons_succ,i64_w,i32_w]
      rfl
     exact norm_ (by simp only [putAll,Act.put,List.setIfInBounds_toArray,List.set_cons_zero,List.set_cons_succ]) (hCont (gb404) _ ⟨hHeld,(zR HO395),(zB BK392),(zB BK404),GW404.out,GE404.out,NB0_404.out,NB404_0.out,NB392_404.out,NB404_392.out,(zJ HI0),(zK HK),(zI HB HI0)⟩)
    ·skip
     refine box_step ?hg (N:=4) ?hd (cs:=#[.int .i64 0,.int .i64 0,.int .i64 0,.int .i64 0]) (t:=52) ?hr ?_;(case hd=>rfl);(case hg=>rfl);(case hr=>first|(go_simp;done)|(go_simp;rfl))
     intro gb404 hg w17 hbox hb
     have HS0_:=(hb.cell (World.block_lt_of_cell? _ _ (hHeld.1))).trans (hHeld.1)
     have HS1_:=(hb.cell (World.block_lt_of_cell? _ _ (hHeld.2))).trans (hHeld.2)
     have n0_:=Aside0.mk (Kd.R_below (zR HO395) hb)
     have n1_:=Aside0.mk (IsS71.below (zJ HI0) hb)
     have n2_:=Aside0.mk (blk_below (zB BK392) hb)
     have n3_:=Aside0.mk (KeepBut.trans (zK HK) (KeepBut.of_below hb g none) (.inl rfl))
     have n4_:=Aside0.mk (below_step (zI HB HI0) hb)
     have n5_:=Aside0.mk hbox
     have n6_:=Aside0.mk ((by rw [hg];exact (keep_size (w:=w) (g:=g) (row:=none) (zK HK)) : w.heap.size≤gb404))
     have n7_:=Aside0.mk ((Nat.le_trans HW0.out (by rw [hg];exact (keep_size (w:=w) (g:=g) (row:=none) (zK HK)) : w.heap.size≤gb404) : w0.heap.size≤gb404))
     have n8_:=Aside0.mk (zL hg BK392)
     have n9_:=Aside0.mk (zG hg BK392)
     have n10_:=Aside0.mk ((by rw [hg];exact Nat.ne_of_lt (Nat.lt_of_lt_of_le HGT.out (show KeepBut w _ g none from zK HK).1) : g≠gb404))
     have n11_:=Aside0.mk ((by rw [hg];exact Nat.ne_of_gt (Nat.lt_of_lt_of_le HGT.out (show KeepBut w _ g none from zK HK).1) : gb404≠g))
     clear HO395
     clear HI0
     clear BK392
     clear HK
     clear HB
     have HO395:=n0_
     have HI0:=n1_
     have BK392:=n2_
     have HK:=n3_
     have HB:=n4_
     have BK404:=n5_
     have GW404:=n6_
     have GE404:=n7_
     have NB392_404:=n8_
     have NB404_392:=n9_
     have NB0_404:=n10_
     have NB404_0:=n11_
     clear n0_ n1_ n2_ n3_ n4_ n5_ n6_ n7_ n8_ n9_ n10_ n11_
     clear hb hbox hg
     refine hK.out _ _ ⟨HS0_,HS1_⟩ (fun hHeld=>?_)
     clear hK K
     refine norm_ (a':=?_) ?_ ?_
     rotate_left
     ·show Act.put _ (some 4) _=_
      simp only [Act.put,List.setIfInBounds_toArray,List.set_cons_zero,List.set_cons_succ,i64_w,i32_w]
      rfl
     refine one_ (i:=11) (N:=some 17) #[true,true,true,true,true,true,true,true,true,true,true,true,false,true,false] rfl rfl (one_of HT_.out zk) (by decide) (fun K hK=>?_)
     refine goes_ Try.func11 zk rfl #[.pointer (some ⟨g,0,none⟩),.int .i64 12] (by rfl) rfl rfl zA ?_
     with_reducible refine (soundservicemade_Dice_Next.calls g t400 12 t402 t403 w0 _ ?side1 ?side2 A8.out).mono ?_
     (case side1=>exact zJ HI0)
     (case side2=>exact zI HB HI0)
     rintro e w18 ⟨rfl,hi,hb,hk⟩
     have HS0_:=keep_cell hk (hHeld.1) (by first|(rw [add_block];exact Kd.own_blk (IsS71.own_ne HI0.out HO395.out (by decide)))|(show (Addr.add _ _).block≠_;rw [add_block];exact Kd.own_blk (IsS71.own_ne HI0.out HO395.out (by decide)))|exact Kd.own_blk (IsS71.own_ne HI0.out HO395.out (by decide)))
     have HS1_:=keep_cell hk (hHeld.2) (by first|(rw [add_block];exact Kd.own_blk (IsS71.own_ne HI0.out HO395.out (by decide)))|(show (Addr.add _ _).block≠_;rw [add_block];exact Kd.own_blk (IsS71.own_ne HI0.out HO395.out (by decide)))|exact Kd.own_blk (IsS71.own_ne HI0.out HO395.out (by decide)))
     refine ⟨_,rfl,?_⟩
     have n0_:=Aside0.mk (KeepBut.blk hk (g':=gb392) (o:=.cells #[.int .i64 0,.int .i64 0,.int .i64 0,.int .i64 0] 52 (0,0)) (zB BK392) NB392_0.out (by simp))
     have n1_:=Aside0.mk (Kd.R_mono (Kd.R_keep (IsS71.apart (show IsS71 w0 _ g t400 from zJ HI0) (zR HO395) (by decide)) hk (fun _ h=>h.2)) (fun _ h=>h.1))
     have n2_:=Aside0.mk (KeepBut.blk hk (g':=gb404) (o:=.cells #[.int .i64 0,.int .i64 0,.int .i64 0,.int .i64 0] 52 (0,0)) (zB BK404) NB404_0.out (by simp))
     have n3_:=Aside0.mk (KeepBut.trans (zK HK) hk (.inl rfl))
     have n4_:=Aside0.mk hb
     have n5_:=Aside0.mk hi
     clear BK392
     clear HO395
     clear BK404
     clear HK
     clear HB
     clear HI0
     have BK392:=n0_
     have HO395:=n1_
     have BK404:=n2_
     have HK:=n3_
     have HB:=n4_
     have HI0:=n5_
     clear n0_ n1_ n2_ n3_ n4_ n5_
     (try clear hb)
     (try clear hb2)
     (try clear hk)
     (try clear hi)
     (try clear hgw)
     refine hK.out _ _ ⟨HS0_,HS1_⟩ (fun hHeld=>?_)
     clear hK K
     refine norm_ (a':=?_) ?_ ?_
     rotate_left
     ·show Act.put _ (some 17) _=_
      simp only [Act.put,List.setIfInBounds_toArray,List.set_cons_zero,List.set_cons_succ,i64_w,i32_w]
      rfl
     refine pure_ (i:=12) (N:=some 18) (v:=?_) (a':=?_) #[true,true,true,true,true,true,true,true,true,true,true,true,true,true,false] rfl rfl (any_of HT_.out zk) (fun _ _ _ h=>h) (Or.inl ⟨by rfl,?_⟩) ?_ ?_
     rotate_left
     ·intro w'
      go_simp
      with_reducible rfl
     rotate_left
     ·simp only [Act.put,List.setIfInBounds_toArray,List.set_cons_zero,List.set_cons_succ,i64_w,i32_w]
      rfl
     exact norm_ (by simp only [putAll,Act.put,List.setIfInBounds_toArray,List.set_cons_zero,List.set_cons_succ]) (hCont (gb404) _ ⟨hHeld,(zR HO395),(zB BK392),(zB BK404),GW404.out,GE404.out,NB0_404.out,NB404_0.out,NB392_404.out,NB404_392.out,(zJ HI0),(zK HK),(zI HB HI0)⟩)
   ·skip
    refine box_step ?hg (N:=4) ?hd (cs:=#[.int .i64 0,.int .i64 0,.int .i64 0,.int .i64 0]) (t:=52) ?hr ?_;(case hd=>rfl);(case hg=>rfl);(case hr=>first|(go_simp;done)|(go_simp;rfl))
    intro gb404 hg w16 hbox hb
    have HS0_:=(hb.cell (World.block_lt_of_cell? _ _ (hHeld.1))).trans (hHeld.1)
    have HS1_:=(hb.cell (World.block_lt_of_cell? _ _ (hHeld.2))).trans (hHeld.2)
    have n0_:=Aside0.mk (Kd.R_below (zR HO395) hb)
    have n1_:=Aside0.mk (IsS71.below (zJ HI0) hb)
    have n2_:=Aside0.mk (blk_below (zB BK392) hb)
    have n3_:=Aside0.mk (KeepBut.trans (zK HK) (KeepBut.of_below hb g none) (.inl rfl))
    have n4_:=Aside0.mk (below_step (zI HB HI0) hb)
    have n5_:=Aside0.mk hbox
    have n6_:=Aside0.mk ((by rw [hg];exact (keep_size (w:=w) (g:=g) (row:=none) (zK HK)) : w.heap.size≤gb404))
    have n7_:=Aside0.mk ((Nat.le_trans HW0.out (by rw [hg];exact (keep_size (w:=w) (g:=g) (row:=none) (zK HK)) : w.heap.size≤gb404) : w0.heap.size≤gb404))
    have n8_:=Aside0.mk (zL hg BK392)
    have n9_:=Aside0.mk (zG hg BK392)
    have n10_:=Aside0.mk ((by rw [hg];exact Nat.ne_of_lt (Nat.lt_of_lt_of_le HGT.out (show KeepBut w _ g none from zK HK).1) : g≠gb404))
    have n11_:=Aside0.mk ((by rw [hg];exact Nat.ne_of_gt (Nat.lt_of_lt_of_le HGT.out (show KeepBut w _ g none from zK HK).1) : gb404≠g))
    clear HO395
    clear HI0
    clear BK392
    clear HK
    clear HB
    have HO395:=n0_
    have HI0:=n1_
    have BK392:=n2_
    have HK:=n3_
    have HB:=n4_
    have BK404:=n5_
    have GW404:=n6_
    have GE404:=n7_
    have NB392_404:=n8_
    have NB404_392:=n9_
    have NB0_404:=n10_
    have NB404_0:=n11_
    clear n0_ n1_ n2_ n3_ n4_ n5_ n6_ n7_ n8_ n9_ n10_ n11_
    clear hb hbox hg
    refine hK.out _ _ ⟨HS0_,HS1_⟩ (fun hHeld=>?_)
    clear hK K
    refine norm_ (a':=?_) ?_ ?_
    rotate_left
    ·show Act.put _ (some 4) _=_
     simp only [Act.put,List.setIfInBounds_toArray,List.set_cons_zero,List.set_cons_succ,i64_w,i32_w]
     rfl
    refine one_ (i:=7) (N:=some 13) #[true,true,true,true,true,true,true,true,false,false,true,false,false,true,false] rfl rfl (one_of HT_.out zk) (by decide) (fun K hK=>?_)
    refine goes_ Try.func11 zk rfl #[.pointer (some ⟨g,0,none⟩),.int .i64 7] (by rfl) rfl rfl zA ?_
    with_reducible refine (soundservicemade_Dice_Next.calls g t397 7 t399 t400 w0 _ ?side1 ?side2 A5.out).mono ?_
    (case side1=>exact zJ HI0)
    (case side2=>exact zI HB HI0)
    rintro e w17 ⟨rfl,hi,hb,hk⟩
    have HS0_:=keep_cell hk (hHeld.1) (by first|(rw [add_block];exact Kd.own_blk (IsS71.own_ne HI0.out HO395.out (by decide)))|(show (Addr.add _ _).block≠_;rw [add_block];exact Kd.own_blk (IsS71.own_ne HI0.out HO395.out (by decide)))|exact Kd.own_blk (IsS71.own_ne HI0.out HO395.out (by decide)))
    have HS1_:=keep_cell hk (hHeld.2) (by first|(rw [add_block];exact Kd.own_blk (IsS71.own_ne HI0.out HO395.out (by decide)))|(show (Addr.add _ _).block≠_;rw [add_block];exact Kd.own_blk (IsS71.own_ne HI0.out HO395.out (by decide)))|exact Kd.own_blk (IsS71.own_ne HI0.out HO395.out (by decide)))
    refine ⟨_,rfl,?_⟩
    have n0_:=Aside0.mk (KeepBut.blk hk (g':=gb392) (o:=.cells #[.int .i64 0,.int .i64 0,.int .i64 0,.int .i64 0] 52 (0,0)) (zB BK392) NB392_0.out (by simp))
    have n1_:=Aside0.mk (Kd.R_mono (Kd.R_keep (IsS71.apart (show IsS71 w0 _ g t397 from zJ HI0) (zR HO395) (by decide)) hk (fun _ h=>h.2)) (fun _ h=>h.1))
    have n2_:=Aside0.mk (KeepBut.blk hk (g':=gb404) (o:=.cells #[.int .i64 0,.int .i64 0,.int .i64 0,.int .i64 0] 52 (0,0)) (zB BK404) NB404_0.out (by simp))
    have n3_:=Aside0.mk (KeepBut.trans (zK HK) hk (.inl rfl))
    have n4_:=Aside0.mk hb
    have n5_:=Aside0.mk hi
    clear BK392
    clear HO395
    clear BK404
    clear HK
    clear HB
    clear HI0
    have BK392:=n0_
    have HO395:=n1_
    have BK404:=n2_
    have HK:=n3_
    have HB:=n4_
    have HI0:=n5_
    clear n0_ n1_ n2_ n3_ n4_ n5_
    (try clear hb)
    (try clear hb2)
    (try clear hk)
    (try clear hi)
    (try clear hgw)
    refine hK.out _ _ ⟨HS0_,HS1_⟩ (fun hHeld=>?_)
    clear hK K
    refine norm_ (a':=?_) ?_ ?_
    rotate_left
    ·show Act.put _ (some 13) _=_
     simp only [Act.put,List.setIfInBounds_toArray,List.set_cons_zero,List.set_cons_succ,i64_w,i32_w]
     rfl
    refine pure_ (i:=8) (N:=some 14) (v:=?_) (a':=?_) #[true,true,true,true,true,true,true,true,true,false,true,false,false,true,false] rfl rfl (any_of HT_.out zk) (fun _ _ _ h=>h) (Or.inl ⟨by rfl,?_⟩) ?_ ?_
    rotate_left
    ·intro w'
     go_simp
     with_reducible rfl
    rotate_left
    ·simp only [Act.put,List.setIfInBounds_toArray,List.set_cons_zero,List.set_cons_succ,i64_w,i32_w]
     rfl
    refine take_ (i:=9) (N:=some 15) (v:=?_) (a':=?_) #[true,true,true,true,true,true,true,true,true,true,true,false,false,true,false] rfl rfl (take_ofW HT_.out HW_.out zk) (fun _ _ _ h=>h) (Or.inl ⟨by rfl,?_⟩) hHeld ?_ ?_
    rotate_left
    ·rintro w' ⟨s0,s1⟩
     go_simp
     with_reducible rfl
    rotate_left
    ·simp only [Act.put,List.setIfInBounds_toArray,List.set_cons_zero,List.set_cons_succ,i64_w,i32_w]
     rfl
    refine one_ (i:=11) (N:=some 17) #[true,true,true,true,true,true,true,true,true,true,true,true,false,true,false] rfl rfl (one_of HT_.out zk) (by decide) (fun K hK=>?_)
    refine goes_ Try.func11 zk rfl #[.pointer (some ⟨g,0,none⟩),.int .i64 12] (by rfl) rfl rfl zA ?_
    with_reducible refine (soundservicemade_Dice_Next.calls g t400 12 t402 t403 w0 _ ?side1 ?side2 A8.out).mono ?_
    (case side1=>exact zJ HI0)
    (case side2=>exact zI HB HI0)
    rintro e w18 ⟨rfl,hi,hb,hk⟩
    have HS0_:=keep_cell hk (hHeld.1) (by first|(rw [add_block];exact Kd.own_blk (IsS71.own_ne HI0.out HO395.out (by decide)))|(show (Addr.add _ _).block≠_;rw [add_block];exact Kd.own_blk (IsS71.own_ne HI0.out HO395.out (by decide)))|exact Kd.own_blk (IsS71.own_ne HI0.out HO395.out (by decide)))
    have HS1_:=keep_cell hk (hHeld.2) (by first|(rw [add_block];exact Kd.own_blk (IsS71.own_ne HI0.out HO395.out (by decide)))|(show (Addr.add _ _).block≠_;rw [add_block];exact Kd.own_blk (IsS71.own_ne HI0.out HO395.out (by decide)))|exact Kd.own_blk (IsS71.own_ne HI0.out HO395.out (by decide)))
    refine ⟨_,rfl,?_⟩
    have n0_:=Aside0.mk (KeepBut.blk hk (g':=gb392) (o:=.cells #[.int .i64 0,.int .i64 0,.int .i64 0,.int .i64 0] 52 (0,0)) (zB BK392) NB392_0.out (by simp))
    have n1_:=Aside0.mk (Kd.R_mono (Kd.R_keep (IsS71.apart (show IsS71 w0 _ g t400 from zJ HI0) (zR HO395) (by decide)) hk (fun _ h=>h.2)) (fun _ h=>h.1))
    have n2_:=Aside0.mk (KeepBut.blk hk (g':=gb404) (o:=.cells #[.int .i64 0,.int .i64 0,.int .i64 0,.int .i64 0] 52 (0,0)) (zB BK404) NB404_0.out (by simp))
    have n3_:=Aside0.mk (KeepBut.trans (zK HK) hk (.inl rfl))
    have n4_:=Aside0.mk hb
    have n5_:=Aside0.mk hi
    clear BK392
    clear HO395
    clear BK404
    clear HK
    clear HB
    clear HI0
    have BK392:=n0_
    have HO395:=n1_
    have BK404:=n2_
    have HK:=n3_
    have HB:=n4_
    have HI0:=n5_
    clear n0_ n1_ n2_ n3_ n4_ n5_
    (try clear hb)
    (try clear hb2)
    (try clear hk)
    (try clear hi)
    (try clear hgw)
    refine hK.out _ _ ⟨HS0_,HS1_⟩ (fun hHeld=>?_)
    clear hK K
    refine norm_ (a':=?_) ?_ ?_
    rotate_left
    ·show Act.put _ (some 17) _=_
     simp only [Act.put,List.setIfInBounds_toArray,List.set_cons_zero,List.set_cons_succ,i64_w,i32_w]
     rfl
    refine pure_ (i:=12) (N:=some 18) (v:=?_) (a':=?_) #[true,true,true,true,true,true,true,true,true,true,true,true,true,true,false] rfl rfl (any_of HT_.out zk) (fun _ _ _ h=>h) (Or.inl ⟨by rfl,?_⟩) ?_ ?_
    rotate_left
    ·intro w'
     go_simp
     with_reducible rfl
    rotate_left
    ·simp only [Act.put,List.setIfInBounds_toArray,List.set_cons_zero,List.set_cons_succ,i64_w,i32_w]
     rfl
    exact norm_ (by simp only [putAll,Act.put,List.setIfInBounds_toArray,List.set_cons_zero,List.set_cons_succ]) (hCont (gb404) _ ⟨hHeld,(zR HO395),(zB BK392),(zB BK404),GW404.out,GE404.out,NB0_404.out,NB404_0.out,NB392_404.out,NB404_392.out,(zJ HI0),(zK HK),(zI HB HI0)⟩)
  ·skip
   refine box_step ?hg (N:=4) ?hd (cs:=#[.int .i64 0,.int .i64 0,.int .i64 0,.int .i64 0]) (t:=52) ?hr ?_;(case hd=>rfl);(case hg=>rfl);(case hr=>first|(go_simp;done)|(go_simp;rfl))
   intro gb404 hg w15 hbox hb
   have HS0_:=(hb.cell (World.block_lt_of_cell? _ _ (hHeld.1))).trans (hHeld.1)
   have HS1_:=(hb.cell (World.block_lt_of_cell? _ _ (hHeld.2))).trans (hHeld.2)
   have n0_:=Aside0.mk (Kd.R_below (zR HO395) hb)
   have n1_:=Aside0.mk (IsS71.below (zJ HI0) hb)
   have n2_:=Aside0.mk (blk_below (zB BK392) hb)
   have n3_:=Aside0.mk (KeepBut.trans (zK HK) (KeepBut.of_below hb g none) (.inl rfl))
   have n4_:=Aside0.mk (below_step (zI HB HI0) hb)
   have n5_:=Aside0.mk hbox
   have n6_:=Aside0.mk ((by rw [hg];exact (keep_size (w:=w) (g:=g) (row:=none) (zK HK)) : w.heap.size≤gb404))
   have n7_:=Aside0.mk ((Nat.le_trans HW0.out (by rw [hg];exact (keep_size (w:=w) (g:=g) (row:=none) (zK HK)) : w.heap.size≤gb404) : w0.heap.size≤gb404))
   have n8_:=Aside0.mk (zL hg BK392)
   have n9_:=Aside0.mk (zG hg BK392)
   have n10_:=Aside0.mk ((by rw [hg];exact Nat.ne_of_lt (Nat.lt_of_lt_of_le HGT.out (show KeepBut w _ g none from zK HK).1) : g≠gb404))
   have n11_:=Aside0.mk ((by rw [hg];exact Nat.ne_of_gt (Nat.lt_of_lt_of_le HGT.out (show KeepBut w _ g none from zK HK).1) : gb404≠g))
   clear HO395
   clear HI0
   clear BK392
   clear HK
   clear HB
   have HO395:=n0_
   have HI0:=n1_
   have BK392:=n2_
   have HK:=n3_
   have HB:=n4_
   have BK404:=n5_
   have GW404:=n6_
   have GE404:=n7_
   have NB392_404:=n8_
   have NB404_392:=n9_
   have NB0_404:=n10_
   have NB404_0:=n11_
   clear n0_ n1_ n2_ n3_ n4_ n5_ n6_ n7_ n8_ n9_ n10_ n11_
   clear hb hbox hg
   refine hK.out _ _ ⟨HS0_,HS1_⟩ (fun hHeld=>?_)
   clear hK K
   refine norm_ (a':=?_) ?_ ?_
   rotate_left
   ·show Act.put _ (some 4) _=_
    simp only [Act.put,List.setIfInBounds_toArray,List.set_cons_zero,List.set_cons_succ,i64_w,i32_w]
    rfl
   refine one_ (i:=2) (N:=some 8) #[true,true,true,false,false,true,true,false,false,false,true,false,false,true,false] rfl rfl (one_of HT_.out zk) (by decide) (fun K hK=>?_)
   refine goes_ Try.func11 zk rfl #[.pointer (some ⟨g,0,none⟩),.int .i64 7] (by rfl) rfl rfl zA ?_
   with_reducible refine (soundservicemade_Dice_Next.calls g s0_0 7 t396 t397 w0 _ ?side1 ?side2 A2.out).mono ?_
   (case side1=>exact zJ HI0)
   (case side2=>exact zI HB HI0)
   rintro e w16 ⟨rfl,hi,hb,hk⟩
   have HS0_:=keep_cell hk (hHeld.1) (by first|(rw [add_block];exact Kd.own_blk (IsS71.own_ne HI0.out HO395.out (by decide)))|(show (Addr.add _ _).block≠_;rw [add_block];exact Kd.own_blk (IsS71.own_ne HI0.out HO395.out (by decide)))|exact Kd.own_blk (IsS71.own_ne HI0.out HO395.out (by decide)))
   have HS1_:=keep_cell hk (hHeld.2) (by first|(rw [add_block];exact Kd.own_blk (IsS71.own_ne HI0.out HO395.out (by decide)))|(show (Addr.add _ _).block≠_;rw [add_block];exact Kd.own_blk (IsS71.own_ne HI0.out HO395.out (by decide)))|exact Kd.own_blk (IsS71.own_ne HI0.out HO395.out (by decide)))
   refine ⟨_,rfl,?_⟩
   have n0_:=Aside0.mk (KeepBut.blk hk (g':=gb392) (o:=.cells #[.int .i64 0,.int .i64 0,.int .i64 0,.int .i64 0] 52 (0,0)) (zB BK392) NB392_0.out (by simp))
   have n1_:=Aside0.mk (Kd.R_mono (Kd.R_keep (IsS71.apart (show IsS71 w0 _ g s0_0 from zJ HI0) (zR HO395) (by decide)) hk (fun _ h=>h.2)) (fun _ h=>h.1))
   have n2_:=Aside0.mk (KeepBut.blk hk (g':=gb404) (o:=.cells #[.int .i64 0,.int .i64 0,.int .i64 0,.int .i64 0] 52 (0,0)) (zB BK404) NB404_0.out (by simp))
   have n3_:=Aside0.mk (KeepBut.trans (zK HK) hk (.inl rfl))
   have n4_:=Aside0.mk hb
   have n5_:=Aside0.mk hi
   clear BK392
   clear HO395
   clear BK404
   clear HK
   clear HB
   clear HI0
   have BK392:=n0_
   have HO395:=n1_
   have BK404:=n2_
   have HK:=n3_
   have HB:=n4_
   have HI0:=n5_
   clear n0_ n1_ n2_ n3_ n4_ n5_
   (try clear hb)
   (try clear hb2)
   (try clear hk)
   (try clear hi)
   (try clear hgw)
   refine hK.out _ _ ⟨HS0_,HS1_⟩ (fun hHeld=>?_)
   clear hK K
   refine norm_ (a':=?_) ?_ ?_
   rotate_left
   ·show Act.put _ (some 8) _=_
    simp only [Act.put,List.setIfInBounds_toArray,List.set_cons_zero,List.set_cons_succ,i64_w,i32_w]
    rfl
   refine pure_ (i:=3) (N:=some 9) (v:=?_) (a':=?_) #[true,true,true,true,false,true,true,false,false,false,true,false,false,true,false] rfl rfl (any_of HT_.out zk) (fun _ _ _ h=>h) (Or.inl ⟨by rfl,?_⟩) ?_ ?_
   rotate_left
   ·intro w'
    go_simp
    with_reducible rfl
   rotate_left
   ·simp only [Act.put,List.setIfInBounds_toArray,List.set_cons_zero,List.set_cons_succ,i64_w,i32_w]
    rfl
   refine take_ (i:=4) (N:=some 10) (v:=?_) (a':=?_) #[true,true,true,true,true,true,true,false,false,false,true,false,false,true,false] rfl rfl (take_ofW HT_.out HW_.out zk) (fun _ _ _ h=>h) (Or.inl ⟨by rfl,?_⟩) hHeld ?_ ?_
   rotate_left
   ·rintro w' ⟨s0,s1⟩
    go_simp
    with_reducible rfl
   rotate_left
   ·simp only [Act.put,List.setIfInBounds_toArray,List.set_cons_zero,List.set_cons_succ,i64_w,i32_w]
    rfl
   refine one_ (i:=7) (N:=some 13) #[true,true,true,true,true,true,true,true,false,false,true,false,false,true,false] rfl rfl (one_of HT_.out zk) (by decide) (fun K hK=>?_)
   refine goes_ Try.func11 zk rfl #[.pointer (some ⟨g,0,none⟩),.int .i64 7] (by rfl) rfl rfl zA ?_
   with_reducible refine (soundservicemade_Dice_Next.calls g t397 7 t399 t400 w0 _ ?side1 ?side2 A5.out).mono ?_
   (case side1=>exact zJ HI0)
   (case side2=>exact zI HB HI0)
   rintro e w17 ⟨rfl,hi,hb,hk⟩
   have HS0_:=keep_cell hk (hHeld.1) (by first|(rw [add_block];exact Kd.own_blk (IsS71.own_ne HI0.out HO395.out (by decide)))|(show (Addr.add _ _).block≠_;rw [add_block];exact Kd.own_blk (IsS71.own_ne HI0.out HO395.out (by decide)))|exact Kd.own_blk (IsS71.own_ne HI0.out HO395.out (by decide)))
   have HS1_:=keep_cell hk (hHeld.2) (by first|(rw [add_block];exact Kd.own_blk (IsS71.own_ne HI0.out HO395.out (by decide)))|(show (Addr.add _ _).block≠_;rw [add_block];exact Kd.own_blk (IsS71.own_ne HI0.out HO395.out (by decide)))|exact Kd.own_blk (IsS71.own_ne HI0.out HO395.out (by decide)))
   refine ⟨_,rfl,?_⟩
   have n0_:=Aside0.mk (KeepBut.blk hk (g':=gb392) (o:=.cells #[.int .i64 0,.int .i64 0,.int .i64 0,.int .i64 0] 52 (0,0)) (zB BK392) NB392_0.out (by simp))
   have n1_:=Aside0.mk (Kd.R_mono (Kd.R_keep (IsS71.apart (show IsS71 w0 _ g t397 from zJ HI0) (zR HO395) (by decide)) hk (fun _ h=>h.2)) (fun _ h=>h.1))
   have n2_:=Aside0.mk (KeepBut.blk hk (g':=gb404) (o:=.cells #[.int .i64 0,.int .i64 0,.int .i64 0,.int .i64 0] 52 (0,0)) (zB BK404) NB404_0.out (by simp))
   have n3_:=Aside0.mk (KeepBut.trans (zK HK) hk (.inl rfl))
   have n4_:=Aside0.mk hb
   have n5_:=Aside0.mk hi
   clear BK392
   clear HO395
   clear BK404
   clear HK
   clear HB
   clear HI0
   have BK392:=n0_
   have HO395:=n1_
   have BK404:=n2_
   have HK:=n3_
   have HB:=n4_
   have HI0:=n5_
   clear n0_ n1_ n2_ n3_ n4_ n5_
   (try clear hb)
   (try clear hb2)
   (try clear hk)
   (try clear hi)
   (try clear hgw)
   refine hK.out _ _ ⟨HS0_,HS1_⟩ (fun hHeld=>?_)
   clear hK K
   refine norm_ (a':=?_) ?_ ?_
   rotate_left
   ·show Act.put _ (some 13) _=_
    simp only [Act.put,List.setIfInBounds_toArray,List.set_cons_zero,List.set_cons_succ,i64_w,i32_w]
    rfl
   refine pure_ (i:=8) (N:=some 14) (v:=?_) (a':=?_) #[true,true,true,true,true,true,true,true,true,false,true,false,false,true,false] rfl rfl (any_of HT_.out zk) (fun _ _ _ h=>h) (Or.inl ⟨by rfl,?_⟩) ?_ ?_
   rotate_left
   ·intro w'
    go_simp
    with_reducible rfl
   rotate_left
   ·simp only [Act.put,List.setIfInBounds_toArray,List.set_cons_zero,List.set_cons_succ,i64_w,i32_w]
    rfl
   refine take_ (i:=9) (N:=some 15) (v:=?_) (a':=?_) #[true,true,true,true,true,true,true,true,true,true,true,false,false,true,false] rfl rfl (take_ofW HT_.out HW_.out zk) (fun _ _ _ h=>h) (Or.inl ⟨by rfl,?_⟩) hHeld ?_ ?_
   rotate_left
   ·rintro w' ⟨s0,s1⟩
    go_simp
    with_reducible rfl
   rotate_left
   ·simp only [Act.put,List.setIfInBounds_toArray,List.set_cons_zero,List.set_cons_succ,i64_w,i32_w]
    rfl
   refine one_ (i:=11) (N:=some 17) #[true,true,true,true,true,true,true,true,true,true,true,true,false,true,false] rfl rfl (one_of HT_.out zk) (by decide) (fun K hK=>?_)
   refine goes_ Try.func11 zk rfl #[.pointer (some ⟨g,0,none⟩),.int .i64 12] (by rfl) rfl rfl zA ?_
   with_reducible refine (soundservicemade_Dice_Next.calls g t400 12 t402 t403 w0 _ ?side1 ?side2 A8.out).mono ?_
   (case side1=>exact zJ HI0)
   (case side2=>exact zI HB HI0)
   rintro e w18 ⟨rfl,hi,hb,hk⟩
   have HS0_:=keep_cell hk (hHeld.1) (by first|(rw [add_block];exact Kd.own_blk (IsS71.own_ne HI0.out HO395.out (by decide)))|(show (Addr.add _ _).block≠_;rw [add_block];exact Kd.own_blk (IsS71.own_ne HI0.out HO395.out (by decide)))|exact Kd.own_blk (IsS71.own_ne HI0.out HO395.out (by decide)))
   have HS1_:=keep_cell hk (hHeld.2) (by first|(rw [add_block];exact Kd.own_blk (IsS71.own_ne HI0.out HO395.out (by decide)))|(show (Addr.add _ _).block≠_;rw [add_block];exact Kd.own_blk (IsS71.own_ne HI0.out HO395.out (by decide)))|exact Kd.own_blk (IsS71.own_ne HI0.out HO395.out (by decide)))
   refine ⟨_,rfl,?_⟩
   have n0_:=Aside0.mk (KeepBut.blk hk (g':=gb392) (o:=.cells #[.int .i64 0,.int .i64 0,.int .i64 0,.int .i64 0] 52 (0,0)) (zB BK392) NB392_0.out (by simp))
   have n1_:=Aside0.mk (Kd.R_mono (Kd.R_keep (IsS71.apart (show IsS71 w0 _ g t400 from zJ HI0) (zR HO395) (by decide)) hk (fun _ h=>h.2)) (fun _ h=>h.1))
   have n2_:=Aside0.mk (KeepBut.blk hk (g':=gb404) (o:=.cells #[.int .i64 0,.int .i64 0,.int .i64 0,.int .i64 0] 52 (0,0)) (zB BK404) NB404_0.out (by simp))
   have n3_:=Aside0.mk (KeepBut.trans (zK HK) hk (.inl rfl))
   have n4_:=Aside0.mk hb
   have n5_:=Aside0.mk hi
   clear BK392
   clear HO395
   clear BK404
   clear HK
   clear HB
   clear HI0
   have BK392:=n0_
   have HO395:=n1_
   have BK404:=n2_
   have HK:=n3_
   have HB:=n4_
   have HI0:=n5_
   clear n0_ n1_ n2_ n3_ n4_ n5_
   (try clear hb)
   (try clear hb2)
   (try clear hk)
   (try clear hi)
   (try clear hgw)
   refine hK.out _ _ ⟨HS0_,HS1_⟩ (fun hHeld=>?_)
   clear hK K
   refine norm_ (a':=?_) ?_ ?_
   rotate_left
   ·show Act.put _ (some 17) _=_
    simp only [Act.put,List.setIfInBounds_toArray,List.set_cons_zero,List.set_cons_succ,i64_w,i32_w]
    rfl
   refine pure_ (i:=12) (N:=some 18) (v:=?_) (a':=?_) #[true,true,true,true,true,true,true,true,true,true,true,true,true,true,false] rfl rfl (any_of HT_.out zk) (fun _ _ _ h=>h) (Or.inl ⟨by rfl,?_⟩) ?_ ?_
   rotate_left
   ·intro w'
    go_simp
    with_reducible rfl
   rotate_left
   ·simp only [Act.put,List.setIfInBounds_toArray,List.set_cons_zero,List.set_cons_succ,i64_w,i32_w]
    rfl
   exact norm_ (by simp only [putAll,Act.put,List.setIfInBounds_toArray,List.set_cons_zero,List.set_cons_succ]) (hCont (gb404) _ ⟨hHeld,(zR HO395),(zB BK392),(zB BK404),GW404.out,GE404.out,NB0_404.out,NB404_0.out,NB392_404.out,NB404_392.out,(zJ HI0),(zK HK),(zI HB HI0)⟩)
 rintro gb404 w19 ⟨hS_,h0_,h1_,h2_,h3_,h4_,h5_,h6_,h7_,h8_,h9_,h10_,h11_⟩
 have n0_ : Aside0 (Kd.R (Kd.int .i64) 3 w19 w.heap.size (fun _=>True) (.slice (some ad398) y393.length co13) y393):=⟨h0_⟩
 have n1_ : Aside0 (w19.heap[gb392]?=some (.cells #[.int .i64 0,.int .i64 0,.int .i64 0,.int .i64 0] 52 (0,0))):=⟨h1_⟩
 have n2_ : Aside0 (w19.heap[gb404]?=some (.cells #[.int .i64 0,.int .i64 0,.int .i64 0,.int .i64 0] 52 (0,0))):=⟨h2_⟩
 have n3_ : Aside0 (w.heap.size≤gb404):=⟨h3_⟩
 have n4_ : Aside0 (w0.heap.size≤gb404):=⟨h4_⟩
 have n5_ : Aside0 (g≠gb404):=⟨h5_⟩
 have n6_ : Aside0 (gb404≠g):=⟨h6_⟩
 have n7_ : Aside0 (gb392≠gb404):=⟨h7_⟩
 have n8_ : Aside0 (gb404≠gb392):=⟨h8_⟩
 have n9_ : Aside0 (IsS71 w0 w19 g t403):=⟨h9_⟩
 have n10_ : Aside0 (KeepBut w w19 g none):=⟨h10_⟩
 have n11_ : Aside0 (Below w0.heap.size w0 w19):=⟨h11_⟩
 clear HO395
 clear BK392
 clear HI0
 clear HK
 clear HB
 clear h0_ h1_ h2_ h3_ h4_ h5_ h6_ h7_ h8_ h9_ h10_ h11_
 have HO395:=n0_
 have BK392:=n1_
 have BK404:=n2_
 have GW404:=n3_
 have GE404:=n4_
 have NB0_404:=n5_
 have NB404_0:=n6_
 have NB392_404:=n7_
 have NB404_392:=n8_
 have HI0:=n9_
 have HK:=n10_
 have HB:=n11_
 clear n0_ n1_ n2_ n3_ n4_ n5_ n6_ n7_ n8_ n9_ n10_ n11_
 have hHeld : w19.cell? (ad398.add (t396).toNat)=some (.int .i64 (rd y393 t396))∧w19.cell? (ad398.add (t399).toNat)=some (.int .i64 (rd y393 t399)):=hS_
 refine norm_ (a':=?_) ?_ ?_
 rotate_left
 ·simp only [putAll,Act.put,List.setIfInBounds_toArray,List.set_cons_zero,List.set_cons_succ]
  rfl
 refine one_ (i:=14) (N:=none) #[true,true,true,true,true,true,true,true,true,true,true,true,true,true,true] rfl rfl (one_of HT_.out zk) (by decide) (fun K hK=>?_)
 have hs20:=zc BK404 0 (.int .i64 0) rfl
 have hfs20:=blk_frozen BK404.out 0
 have hns20_0:=NB392_404.out
 have hms20_0:=NB404_392.out
 have hs21:=zc BK404 1 (.int .i64 0) rfl
 have hfs21:=blk_frozen BK404.out 1
 have hns21_0:=NB392_404.out
 have hms21_0:=NB404_392.out
 have hs22:=zc BK404 2 (.int .i64 0) rfl
 have hfs22:=blk_frozen BK404.out 2
 have hns22_0:=NB392_404.out
 have hms22_0:=NB404_392.out
 have hs23:=zc BK404 3 (.int .i64 0) rfl
 have hfs23:=blk_frozen BK404.out 3
 have hns23_0:=NB392_404.out
 have hms23_0:=NB404_392.out
 refine skip_ (w1:=?_) (by rfl) rfl ?_ ?_
 rotate_left
 ·go_simp
  rfl
 refine hK.out _ _ ⟨((cell_far (p:=⟨gb404,_,none⟩) (by first|exact Kd.own_blk (Kd.R_ne HO395.out BK404.out (by decide))|(rw [add_block];exact Kd.own_blk (Kd.R_ne HO395.out BK404.out (by decide)))|(show (Addr.add _ _).block≠_;rw [add_block];exact Kd.own_blk (Kd.R_ne HO395.out BK404.out (by decide)))|(dsimp only;exact Kd.own_blk (Kd.R_ne HO395.out BK404.out (by decide)))) _).trans (((cell_far (p:=⟨gb404,_,none⟩) (by first|exact Kd.own_blk (Kd.R_ne HO395.out BK404.out (by decide))|(rw [add_block];exact Kd.own_blk (Kd.R_ne HO395.out BK404.out (by decide)))|(show (Addr.add _ _).block≠_;rw [add_block];exact Kd.own_blk (Kd.R_ne HO395.out BK404.out (by decide)))|(dsimp only;exact Kd.own_blk (Kd.R_ne HO395.out BK404.out (by decide)))) _).trans (((cell_far (p:=⟨gb404,_,none⟩) (by first|exact Kd.own_blk (Kd.R_ne HO395.out BK404.out (by decide))|(rw [add_block];exact Kd.own_blk (Kd.R_ne HO395.out BK404.out (by decide)))|(show (Addr.add _ _).block≠_;rw [add_block];exact Kd.own_blk (Kd.R_ne HO395.out BK404.out (by decide)))|(dsimp only;exact Kd.own_blk (Kd.R_ne HO395.out BK404.out (by decide)))) _).trans (((cell_far (p:=⟨gb404,_,none⟩) (by first|exact Kd.own_blk (Kd.R_ne HO395.out BK404.out (by decide))|(rw [add_block];exact Kd.own_blk (Kd.R_ne HO395.out BK404.out (by decide)))|(show (Addr.add _ _).block≠_;rw [add_block];exact Kd.own_blk (Kd.R_ne HO395.out BK404.out (by decide)))|(dsimp only;exact Kd.own_blk (Kd.R_ne HO395.out BK404.out (by decide)))) _).trans (hHeld.1)))))))),((cell_far (p:=⟨gb404,_,none⟩) (by first|exact Kd.own_blk (Kd.R_ne HO395.out BK404.out (by decide))|(rw [add_block];exact Kd.own_blk (Kd.R_ne HO395.out BK404.out (by decide)))|(show (Addr.add _ _).block≠_;rw [add_block];exact Kd.own_blk (Kd.R_ne HO395.out BK404.out (by decide)))|(dsimp only;exact Kd.own_blk (Kd.R_ne HO395.out BK404.out (by decide)))) _).trans (((cell_far (p:=⟨gb404,_,none⟩) (by first|exact Kd.own_blk (Kd.R_ne HO395.out BK404.out (by decide))|(rw [add_block];exact Kd.own_blk (Kd.R_ne HO395.out BK404.out (by decide)))|(show (Addr.add _ _).block≠_;rw [add_block];exact Kd.own_blk (Kd.R_ne HO395.out BK404.out (by decide)))|(dsimp only;exact Kd.own_blk (Kd.R_ne HO395.out BK404.out (by decide)))) _).trans (((cell_far (p:=⟨gb404,_,none⟩) (by first|exact Kd.own_blk (Kd.R_ne HO395.out BK404.out (by decide))|(rw [add_block];exact Kd.own_blk (Kd.R_ne HO395.out BK404.out (by decide)))|(show (Addr.add _ _).block≠_;rw [add_block];exact Kd.own_blk (Kd.R_ne HO395.out BK404.out (by decide)))|(dsimp only;exact Kd.own_blk (Kd.R_ne HO395.out BK404.out (by decide)))) _).trans (((cell_far (p:=⟨gb404,_,none⟩) (by first|exact Kd.own_blk (Kd.R_ne HO395.out BK404.out (by decide))|(rw [add_block];exact Kd.own_blk (Kd.R_ne HO395.out BK404.out (by decide)))|(show (Addr.add _ _).block≠_;rw [add_block];exact Kd.own_blk (Kd.R_ne HO395.out BK404.out (by decide)))|(dsimp only;exact Kd.own_blk (Kd.R_ne HO395.out BK404.out (by decide)))) _).trans (hHeld.2))))))))⟩ (fun hHeld=>?_)
 clear hK K
 refine done_ (done_of HT_.out zk) ?_
 have hnb24:=NB404_392.out
 have hnc24:=NB392_404.out
 have hnb25:=NB404_0.out
 have hnc25:=NB0_404.out
 have hcz26_0:=zc BK404 0 (.int .i64 0) rfl
 have hcz26_1:=zc BK404 1 (.int .i64 0) rfl
 have hcz26_2:=zc BK404 2 (.int .i64 0) rfl
 have hcz26_3:=zc BK404 3 (.int .i64 0) rfl
 have hfz26_0:=blk_frozen BK404.out 0
 have hfz26_1:=blk_frozen BK404.out 1
 have hfz26_2:=blk_frozen BK404.out 2
 have hfz26_3:=blk_frozen BK404.out 3
 try go_wp2_with (first|((with_reducible refine gate_callee (f:=11) rfl ?_);refine goesL_ (some 23) rfl rfl Try.func11 zk rfl #[.pointer (some ⟨g,0,none⟩),.int .i64 (wrap64 (t402+1))] rfl zA ?_;(with_reducible refine (soundservicemade_Dice_Next.calls g t403 (wrap64 (t402+1)) t405 t406 w0 _ ?side1 ?side2 A9.out).mono ?_);(case side1=>exact zJ HI0);(case side2=>exact zI HB HI0);rintro e w27 ⟨rfl,hi,hb,hk⟩;refine ⟨_,rfl,?_⟩;replace BK392:=Aside0.mk (KeepBut.blk hk (g':=gb392) (o:=.cells #[.int .i64 0,.int .i64 0,.int .i64 0,.int .i64 0] 52 (0,0)) (zB BK392) NB392_0.out (by simp));replace HO395:=Aside0.mk (Kd.R_mono (Kd.R_keep (IsS71.apart (show IsS71 w0 _ g t403 from zJ HI0) (by (with_reducible repeat (first|apply Kd.R_alloc|apply Kd.R_drewN|apply Kd.R_drew));exact (Kd.R_mono (Kd.R_far (p:=⟨gb404,3,none⟩) (Kd.R_far (p:=⟨gb404,2,none⟩) (Kd.R_far (p:=⟨gb404,1,none⟩) (Kd.R_far (p:=⟨gb404,0,none⟩) (Kd.R_types HO395.out BK404.out (by decide)) (fun _ hk=>hk.2) (.int .i64 (rd y393 t396))) (fun _ hk=>hk.2) (.int .i64 (rd y393 t399))) (fun _ hk=>hk.2) (.int .i64 t402)) (fun _ hk=>hk.2) (.int .i64 0)) (fun _ h_=>h_.1))) (by decide)) hk (fun _ h=>h.2)) (fun _ h=>h.1));replace BK404:=Aside0.mk (KeepBut.blk hk (g':=gb404) (o:=.cells #[.int .i64 (rd y393 t396),.int .i64 (rd y393 t399),.int .i64 t402,.int .i64 0] 52 (0,0)) (zB BK404) NB404_0.out (by simp));replace HK:=Aside0.mk (KeepBut.trans (zK HK) hk (.inl rfl));replace HB:=Aside0.mk hb;replace HI0:=Aside0.mk hi;(try clear hb);(try clear hk);(try clear hi);have hcz28_0:=zc BK404 0 (.int .i64 (rd y393 t396)) rfl;have hcz28_1:=zc BK404 1 (.int .i64 (rd y393 t399)) rfl;have hcz28_2:=zc BK404 2 (.int .i64 t402) rfl;have hcz28_3:=zc BK404 3 (.int .i64 0) rfl;have hfz28_0:=blk_frozen BK404.out 0;have hfz28_1:=blk_frozen BK404.out 1;have hfz28_2:=blk_frozen BK404.out 2;have hfz28_3:=blk_frozen BK404.out 3;have hnb29:=NB392_0.out;have hnc29:=NB0_392.out;have hcz30_0:=zc BK392 0 (.int .i64 0) rfl;have hcz30_1:=zc BK392 1 (.int .i64 0) rfl;have hcz30_2:=zc BK392 2 (.int .i64 0) rfl;have hcz30_3:=zc BK392 3 (.int .i64 0) rfl;have hfz30_0:=blk_frozen BK392.out 0;have hfz30_1:=blk_frozen BK392.out 1;have hfz30_2:=blk_frozen BK392.out 2;have hfz30_3:=blk_frozen BK392.out 3))
 refine bodyPost_ret (results_cell_row rfl _ _ gb392 52 #[.int .i64 (rd y393 t396),.int .i64 (rd y393 t399),.int .i64 t402,.int .i64 t405] (0,0) _ rfl (zB BK392) Try.underlying52 rfl zk) rfl ?_
 exact ⟨zX,by repeat (first|(with_reducible first|exact HI0.out|apply IsS71.alloc|apply IsS71.drewN|apply IsS71.drew|apply IsS71.set_0|refine IsS71.far ?_ NB0_392.out _|refine IsS71.far ?_ NB0_404.out _)|exact HI0.out),by repeat (first|(with_reducible first|exact HB.out|apply below_alloc|apply pw_below_drewN|apply below_drew1|refine below_set ?_ (IsS71.ge HI0.out)|refine below_set ?_ GE392.out|refine below_set ?_ GE404.out)|exact HB.out),zK HK⟩

end Go.Proofs.Ytcnmemcclhahnaa.QT
