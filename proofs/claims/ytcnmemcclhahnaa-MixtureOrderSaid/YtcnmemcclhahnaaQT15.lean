-- Written by a program of this session, out of the seat's translation; checked by the kernel alone.
import Derived.Test.YtcnmemcclhahnaaQT0
import Derived.Test.YtcnmemcclhahnaaQT9
import Derived.Test.YtcnmemcclhahnaaQT10
import Derived.Test.YtcnmemcclhahnaaQT12
import Derived.Test.YtcnmemcclhahnaaQT13
import Derived.Test.YtcnmemcclhahnaaQT14
namespace Go.Proofs.Ytcnmemcclhahnaa.QT
open Go.RowKit Go.Proofs.YtcnmemcclhahnaaW.PrintWords Go.Proofs.YtcnmemcclhahnaaW.PrintLast Go.Proofs.YtcnmemcclhahnaaW.PrintMore
attribute [local go_sem] max2_int min2_int max_two min_two max_three min_three max_four min_four   -- for this text's walks alone
set_option linter.unusedVariables false
set_option linter.unusedSimpArgs false

/-! ### soundservicemade_Input: function 25 -/
def soundservicemade_Input.f (k : Nat) (s0_0 : List Int) (a1 : Int) (a2 : Int) : Option (Int×List Int×Int×Int×List Int×Int×Int×Int×Int×List Int):=(soundservicemade_Dice_Next.f s0_0 3).bind fun bt408=>((soundservicemade_Dice_Next.f bt408.2 (wrap64 (a2+1))).bind fun bt410=>((soundservicemade_Block.f k bt410.2 (wrap64 (1+bt408.1)) bt410.1).bind fun bt412=>((soundservicemade_Matrix.f k bt412.2.2 (wrap64 (1+bt408.1)) a1).bind fun bt417=>((soundservicemade_Ramp.f bt417.2.2.2).bind fun bt423=>(if (wrap64 (1+bt408.1))=a1 then ((soundservicemade_Dice_Next.f bt423.2.2.2.2 3).bind fun bt429=>(if bt429.1=0 then ((soundserviceref07_Identity.f k a1).bind fun bt431=>(some (bt412.1,bt412.2.1,bt431.1,bt431.2.1,bt431.2.2.1,bt423.1,bt423.2.1,bt423.2.2.1,bt423.2.2.2.1,bt429.2))) else (some (bt412.1,bt412.2.1,bt417.1,bt417.2.1,bt417.2.2.1,bt423.1,bt423.2.1,bt423.2.2.1,bt423.2.2.2.1,bt429.2)))) else (some (bt412.1,bt412.2.1,bt417.1,bt417.2.1,bt417.2.2.1,bt423.1,bt423.2.1,bt423.2.2.1,bt423.2.2.2.1,bt423.2.2.2.2)))))))
theorem soundservicemade_Input.mono : ∀ a0 a1 a2 k,LeO (soundservicemade_Input.f k a0 a1 a2) (soundservicemade_Input.f (k+1) a0 a1 a2):=by
 intro a0 a1 a2 k
 unfold soundservicemade_Input.f
 repeat' first
   | (with_reducible exact soundservicemade_Block.mono _ _ _ _)
   | (with_reducible exact soundservicemade_Matrix.mono _ _ _ _)
   | (with_reducible exact soundserviceref07_Identity.mono _ _)
   | (with_reducible exact LeO.refl _)
   | (with_reducible exact LeO.none _)
   | (with_reducible refine LeO.ite ?_ ?_)
   | (with_reducible refine LeO.bind ?_ (fun _=>?_))
   | exact soundservicemade_Block.mono _ _ _ _
   | exact soundservicemade_Matrix.mono _ _ _ _
   | exact soundserviceref07_Identity.mono _ _
   | exact LeO.none _
   | refine LeO.ite ?_ ?_
   | refine LeO.bind ?_ (fun _=>?_)
set_option maxHeartbeats 8000000 in
set_option maxRecDepth 100000 in
theorem soundservicemade_Input.calls (k : Nat) (g : Nat) (s0_0 : List Int) (a1 : Int) (a2 : Int) (r1 : Int) (r2 : List Int) (r3 : Int) (r4 : Int) (r5 : List Int) (r6 : Int) (r7 : Int) (r8 : Int) (r9 : Int) (r10 : List Int) (w0 w : World) (hI : IsS71 w0 w g s0_0) (hB : Below w0.heap.size w0 w) (h : soundservicemade_Input.f k s0_0 a1 a2=some (r1,r2,r3,r4,r5,r6,r7,r8,r9,r10)) :
  Calls Try.prog 25 #[.pointer (some ⟨g,0,none⟩),.int .i64 a1,.int .i64 a2] w fun e w'=>∃ v1_ v4_ : Value,e = .returned (.agg #[.int .i64 r1,v1_,.int .i64 r3,.int .i64 r4,v4_,.int .i64 r6,.int .i64 r7,.int .i64 r8,.int .i64 r9])∧Kd.R (Kd.int .i32) 21 w' w.heap.size (fun _=>True) v1_ r2∧Kd.R (Kd.int .i64) 3 w' w.heap.size (fun _=>True) v4_ r5∧IsS71 w0 w' g r10∧Below w0.heap.size w0 w'∧KeepBut w w' g none:=by
 have hu54:=Try.underlying54
 have hu50:=Try.underlying50
 have HGT:=Aside0.mk (IsS71.lt hI)
 have HI0:=Aside0.mk hI
 have HK:=Aside0.mk (KeepBut.refl w g none)
 have HL:=Aside0.mk hB.size
 clear hI
 have HW0:=Aside0.mk hB.size
 have HB:=Aside0.mk hB
 clear hB
 have H : ((soundservicemade_Dice_Next.f s0_0 3).bind fun bt408=>((soundservicemade_Dice_Next.f bt408.2 (wrap64 (a2+1))).bind fun bt410=>((soundservicemade_Block.f k bt410.2 (wrap64 (1+bt408.1)) bt410.1).bind fun bt412=>((soundservicemade_Matrix.f k bt412.2.2 (wrap64 (1+bt408.1)) a1).bind fun bt417=>((soundservicemade_Ramp.f bt417.2.2.2).bind fun bt423=>(if (wrap64 (1+bt408.1))=a1 then ((soundservicemade_Dice_Next.f bt423.2.2.2.2 3).bind fun bt429=>(if bt429.1=0 then ((soundserviceref07_Identity.f k a1).bind fun bt431=>(some (bt412.1,bt412.2.1,bt431.1,bt431.2.1,bt431.2.2.1,bt423.1,bt423.2.1,bt423.2.2.1,bt423.2.2.2.1,bt429.2))) else (some (bt412.1,bt412.2.1,bt417.1,bt417.2.1,bt417.2.2.1,bt423.1,bt423.2.1,bt423.2.2.1,bt423.2.2.2.1,bt429.2)))) else (some (bt412.1,bt412.2.1,bt417.1,bt417.2.1,bt417.2.2.1,bt423.1,bt423.2.1,bt423.2.2.1,bt423.2.2.2.1,bt423.2.2.2.2))))))))=some (r1,r2,r3,r4,r5,r6,r7,r8,r9,r10):=h
 clear h
 replace H:=Option.bind_eq_some_iff.mp H
 obtain ⟨⟨t408,t409⟩,A40,H⟩:=H
 replace H : ((soundservicemade_Dice_Next.f t409 (wrap64 (a2+1))).bind fun bt410=>((soundservicemade_Block.f k bt410.2 (wrap64 (1+t408)) bt410.1).bind fun bt412=>((soundservicemade_Matrix.f k bt412.2.2 (wrap64 (1+t408)) a1).bind fun bt417=>((soundservicemade_Ramp.f bt417.2.2.2).bind fun bt423=>(if (wrap64 (1+t408))=a1 then ((soundservicemade_Dice_Next.f bt423.2.2.2.2 3).bind fun bt429=>(if bt429.1=0 then ((soundserviceref07_Identity.f k a1).bind fun bt431=>(some (bt412.1,bt412.2.1,bt431.1,bt431.2.1,bt431.2.2.1,bt423.1,bt423.2.1,bt423.2.2.1,bt423.2.2.2.1,bt429.2))) else (some (bt412.1,bt412.2.1,bt417.1,bt417.2.1,bt417.2.2.1,bt423.1,bt423.2.1,bt423.2.2.1,bt423.2.2.2.1,bt429.2)))) else (some (bt412.1,bt412.2.1,bt417.1,bt417.2.1,bt417.2.2.1,bt423.1,bt423.2.1,bt423.2.2.1,bt423.2.2.2.1,bt423.2.2.2.2)))))))=some (r1,r2,r3,r4,r5,r6,r7,r8,r9,r10):=H
 have A4:=Aside0.mk A40
 clear A40
 replace H:=Option.bind_eq_some_iff.mp H
 obtain ⟨⟨t410,t411⟩,A50,H⟩:=H
 replace H : ((soundservicemade_Block.f k t411 (wrap64 (1+t408)) t410).bind fun bt412=>((soundservicemade_Matrix.f k bt412.2.2 (wrap64 (1+t408)) a1).bind fun bt417=>((soundservicemade_Ramp.f bt417.2.2.2).bind fun bt423=>(if (wrap64 (1+t408))=a1 then ((soundservicemade_Dice_Next.f bt423.2.2.2.2 3).bind fun bt429=>(if bt429.1=0 then ((soundserviceref07_Identity.f k a1).bind fun bt431=>(some (bt412.1,bt412.2.1,bt431.1,bt431.2.1,bt431.2.2.1,bt423.1,bt423.2.1,bt423.2.2.1,bt423.2.2.2.1,bt429.2))) else (some (bt412.1,bt412.2.1,bt417.1,bt417.2.1,bt417.2.2.1,bt423.1,bt423.2.1,bt423.2.2.1,bt423.2.2.2.1,bt429.2)))) else (some (bt412.1,bt412.2.1,bt417.1,bt417.2.1,bt417.2.2.1,bt423.1,bt423.2.1,bt423.2.2.1,bt423.2.2.2.1,bt423.2.2.2.2))))))=some (r1,r2,r3,r4,r5,r6,r7,r8,r9,r10):=H
 have A5:=Aside0.mk A50
 clear A50
 replace H:=Option.bind_eq_some_iff.mp H
 obtain ⟨⟨t412,t413,t416⟩,A60,H⟩:=H
 replace H : ((soundservicemade_Matrix.f k t416 (wrap64 (1+t408)) a1).bind fun bt417=>((soundservicemade_Ramp.f bt417.2.2.2).bind fun bt423=>(if (wrap64 (1+t408))=a1 then ((soundservicemade_Dice_Next.f bt423.2.2.2.2 3).bind fun bt429=>(if bt429.1=0 then ((soundserviceref07_Identity.f k a1).bind fun bt431=>(some (t412,t413,bt431.1,bt431.2.1,bt431.2.2.1,bt423.1,bt423.2.1,bt423.2.2.1,bt423.2.2.2.1,bt429.2))) else (some (t412,t413,bt417.1,bt417.2.1,bt417.2.2.1,bt423.1,bt423.2.1,bt423.2.2.1,bt423.2.2.2.1,bt429.2)))) else (some (t412,t413,bt417.1,bt417.2.1,bt417.2.2.1,bt423.1,bt423.2.1,bt423.2.2.1,bt423.2.2.2.1,bt423.2.2.2.2)))))=some (r1,r2,r3,r4,r5,r6,r7,r8,r9,r10):=H
 have A6:=Aside0.mk A60
 clear A60
 replace H:=Option.bind_eq_some_iff.mp H
 obtain ⟨⟨t417,t418,t419,t422⟩,A70,H⟩:=H
 replace H : ((soundservicemade_Ramp.f t422).bind fun bt423=>(if (wrap64 (1+t408))=a1 then ((soundservicemade_Dice_Next.f bt423.2.2.2.2 3).bind fun bt429=>(if bt429.1=0 then ((soundserviceref07_Identity.f k a1).bind fun bt431=>(some (t412,t413,bt431.1,bt431.2.1,bt431.2.2.1,bt423.1,bt423.2.1,bt423.2.2.1,bt423.2.2.2.1,bt429.2))) else (some (t412,t413,t417,t418,t419,bt423.1,bt423.2.1,bt423.2.2.1,bt423.2.2.2.1,bt429.2)))) else (some (t412,t413,t417,t418,t419,bt423.1,bt423.2.1,bt423.2.2.1,bt423.2.2.2.1,bt423.2.2.2.2))))=some (r1,r2,r3,r4,r5,r6,r7,r8,r9,r10):=H
 have A7:=Aside0.mk A70
 clear A70
 replace H:=Option.bind_eq_some_iff.mp H
 obtain ⟨⟨t423,t424,t425,t426,t427⟩,A80,H⟩:=H
 replace H : (if (wrap64 (1+t408))=a1 then ((soundservicemade_Dice_Next.f t427 3).bind fun bt429=>(if bt429.1=0 then ((soundserviceref07_Identity.f k a1).bind fun bt431=>(some (t412,t413,bt431.1,bt431.2.1,bt431.2.2.1,t423,t424,t425,t426,bt429.2))) else (some (t412,t413,t417,t418,t419,t423,t424,t425,t426,bt429.2)))) else (some (t412,t413,t417,t418,t419,t423,t424,t425,t426,t427)))=some (r1,r2,r3,r4,r5,r6,r7,r8,r9,r10):=H
 have A8:=Aside0.mk A80
 clear A80
 by_cases c9 : (wrap64 (1+t408))=a1
 rotate_left
 ·rw [if_neg c9] at H
  have c9b0 : ((wrap64 (1+t408)) == a1)=false:=beq_eq_false_iff_ne.mpr c9
  have c9b1 : ((wrap64 (1+t408)) != a1)=true:=bne_iff_ne.mpr c9
  simp only [Option.some.injEq,Prod.mk.injEq] at H
  obtain ⟨rfl,rfl,rfl,rfl,rfl,rfl,rfl,rfl,rfl,rfl⟩:=H
  go_enter Try.func25,Try.ntmps25
  go_wp2_with (first|((with_reducible refine gate_dst (N:=6) rfl ?_);refine box_event ?hg (N:=6) ?hd (cs:=#[.int .i64 0,.slice none 0 0,.int .i64 0,.int .i64 0,.slice none 0 0,.int .i64 0,.int .i64 0,.int .i64 0,.int .i64 0]) (t:=54) ?hr ?_;(case hd=>rfl);(case hg=>rfl);(case hr=>first|(go_simp;done)|(go_simp;rfl));intro gb407 hg w47 hbox hb;replace HB:=Aside0.mk (below_step (zI HB HI0) hb);replace HI0:=Aside0.mk (IsS71.below (zJ HI0) hb);have BK407:=Aside0.mk hbox;have GW407:=Aside0.mk ((by rw [hg];exact (keep_size (w:=w) (g:=g) (row:=none) (zK HK)) : w.heap.size≤gb407));have GE407:=Aside0.mk ((Nat.le_trans HW0.out (by rw [hg];exact (keep_size (w:=w) (g:=g) (row:=none) (zK HK)) : w.heap.size≤gb407) : w0.heap.size≤gb407));have NB0_407:=Aside0.mk ((by rw [hg];exact Nat.ne_of_lt (Nat.lt_of_lt_of_le HGT.out (show KeepBut w _ g none from zK HK).1) : g≠gb407));have NB407_0:=Aside0.mk ((by rw [hg];exact Nat.ne_of_gt (Nat.lt_of_lt_of_le HGT.out (show KeepBut w _ g none from zK HK).1) : gb407≠g));replace HK:=Aside0.mk (KeepBut.trans (zK HK) (KeepBut.of_below hb g none) (.inl rfl));clear hb hbox hg)|((with_reducible refine gate_callee (f:=11) rfl ?_);refine goesL_ (some 10) rfl rfl Try.func11 zk rfl #[.pointer (some ⟨g,0,none⟩),.int .i64 3] rfl zA ?_;(with_reducible refine (soundservicemade_Dice_Next.calls g s0_0 3 t408 t409 w0 _ ?side1 ?side2 A4.out).mono ?_);(case side1=>exact zJ HI0);(case side2=>exact zI HB HI0);rintro e w48 ⟨rfl,hi,hb,hk⟩;refine ⟨_,rfl,?_⟩;replace BK407:=Aside0.mk (KeepBut.blk hk (g':=gb407) (o:=.cells #[.int .i64 0,.slice none 0 0,.int .i64 0,.int .i64 0,.slice none 0 0,.int .i64 0,.int .i64 0,.int .i64 0,.int .i64 0] 54 (0,0)) (zB BK407) NB407_0.out (by simp));replace HK:=Aside0.mk (KeepBut.trans (zK HK) hk (.inl rfl));replace HB:=Aside0.mk hb;replace HI0:=Aside0.mk hi;(try clear hb);(try clear hk);(try clear hi))|((with_reducible refine gate_callee (f:=11) rfl ?_);refine goesL_ (some 17) rfl rfl Try.func11 zk rfl #[.pointer (some ⟨g,0,none⟩),.int .i64 (wrap64 (a2+1))] rfl zA ?_;(with_reducible refine (soundservicemade_Dice_Next.calls g t409 (wrap64 (a2+1)) t410 t411 w0 _ ?side1 ?side2 A5.out).mono ?_);(case side1=>exact zJ HI0);(case side2=>exact zI HB HI0);rintro e w49 ⟨rfl,hi,hb,hk⟩;refine ⟨_,rfl,?_⟩;replace BK407:=Aside0.mk (KeepBut.blk hk (g':=gb407) (o:=.cells #[.int .i64 0,.slice none 0 0,.int .i64 0,.int .i64 0,.slice none 0 0,.int .i64 0,.int .i64 0,.int .i64 0,.int .i64 0] 54 (0,0)) (zB BK407) NB407_0.out (by simp));replace HK:=Aside0.mk (KeepBut.trans (zK HK) hk (.inl rfl));replace HB:=Aside0.mk hb;replace HI0:=Aside0.mk hi;(try clear hb);(try clear hk);(try clear hi))|((with_reducible refine gate_callee (f:=27) rfl ?_);refine goesL_ (some 18) rfl rfl Try.func27 zk rfl #[.pointer (some ⟨g,0,none⟩),.int .i64 (wrap64 (1+t408)),.int .i64 t410] rfl zA ?_;(with_reducible refine (soundservicemade_Block.calls k g t411 (wrap64 (1+t408)) t410 t412 t413 t416 w0 _ ?side1 ?side2 A6.out).mono ?_);(case side1=>exact zJ HI0);(case side2=>exact zI HB HI0);rintro e w50 ⟨v414,rfl,ho0,hi,hb,hk⟩;refine ⟨_,rfl,?_⟩;replace BK407:=Aside0.mk (KeepBut.blk hk (g':=gb407) (o:=.cells #[.int .i64 0,.slice none 0 0,.int .i64 0,.int .i64 0,.slice none 0 0,.int .i64 0,.int .i64 0,.int .i64 0,.int .i64 0] 54 (0,0)) (zB BK407) NB407_0.out (by simp));have HO415:=Aside0.mk (Kd.R_lower ho0 (keep_size (w:=w) (g:=g) (row:=none) (zK HK)));replace HK:=Aside0.mk (KeepBut.trans (zK HK) hk (.inl rfl));replace HB:=Aside0.mk hb;replace HI0:=Aside0.mk hi;(try clear hb);(try clear hk);(try clear hi);(try clear ho0))|((with_reducible refine gate_callee (f:=44) rfl ?_);refine goesL_ (some 22) rfl rfl Try.func44 zk rfl #[.pointer (some ⟨g,0,none⟩),.int .i64 (wrap64 (1+t408)),.int .i64 a1] rfl zA ?_;(with_reducible refine (soundservicemade_Matrix.calls k g t416 (wrap64 (1+t408)) a1 t417 t418 t419 t422 w0 _ ?side1 ?side2 A7.out).mono ?_);(case side1=>exact zJ HI0);(case side2=>exact zI HB HI0);rintro e w51 ⟨v420,rfl,ho0,hi,hb,hk⟩;refine ⟨_,rfl,?_⟩;replace BK407:=Aside0.mk (KeepBut.blk hk (g':=gb407) (o:=.cells #[.int .i64 0,.slice none 0 0,.int .i64 0,.int .i64 0,.slice none 0 0,.int .i64 0,.int .i64 0,.int .i64 0,.int .i64 0] 54 (0,0)) (zB BK407) NB407_0.out (by simp));replace HO415:=Aside0.mk (Kd.R_mono (Kd.R_keep (IsS71.apart (show IsS71 w0 _ g t416 from zJ HI0) (zR HO415) (by decide)) hk (fun _ h=>h.2)) (fun _ h=>h.1));have HO421:=Aside0.mk (Kd.R_lower ho0 (keep_size (w:=w) (g:=g) (row:=none) (zK HK)));replace HK:=Aside0.mk (KeepBut.trans (zK HK) hk (.inl rfl));replace HB:=Aside0.mk hb;replace HI0:=Aside0.mk hi;(try clear hb);(try clear hk);(try clear hi);(try clear ho0))|((with_reducible refine gate_callee (f:=45) rfl ?_);refine goesL_ (some 24) rfl rfl Try.func45 zk rfl #[.pointer (some ⟨g,0,none⟩)] rfl zA ?_;(with_reducible refine (soundservicemade_Ramp.calls g t422 t423 t424 t425 t426 t427 w0 _ ?side1 ?side2 A8.out).mono ?_);(case side1=>exact zJ HI0);(case side2=>exact zI HB HI0);rintro e w52 ⟨rfl,hi,hb,hk⟩;refine ⟨_,rfl,?_⟩;replace BK407:=Aside0.mk (KeepBut.blk hk (g':=gb407) (o:=.cells #[.int .i64 0,.slice none 0 0,.int .i64 0,.int .i64 0,.slice none 0 0,.int .i64 0,.int .i64 0,.int .i64 0,.int .i64 0] 54 (0,0)) (zB BK407) NB407_0.out (by simp));replace HO415:=Aside0.mk (Kd.R_mono (Kd.R_keep (IsS71.apart (show IsS71 w0 _ g t422 from zJ HI0) (zR HO415) (by decide)) hk (fun _ h=>h.2)) (fun _ h=>h.1));replace HO421:=Aside0.mk (Kd.R_mono (Kd.R_keep (IsS71.apart (show IsS71 w0 _ g t422 from zJ HI0) (zR HO421) (by decide)) hk (fun _ h=>h.2)) (fun _ h=>h.1));replace HK:=Aside0.mk (KeepBut.trans (zK HK) hk (.inl rfl));replace HB:=Aside0.mk hb;replace HI0:=Aside0.mk hi;(try clear hb);(try clear hk);(try clear hi);obtain ⟨Ao53,co53,eo53⟩:=Kd.R_slice HO421.out;subst eo53;obtain ⟨Ao54,co54,eo54⟩:=Kd.R_slice HO415.out;subst eo54)|((with_reducible refine gate_dst (N:=8) rfl ?_);refine box_event ?hg (N:=8) ?hd (cs:=#[.int .i64 0,.slice none 0 0,.int .i64 0,.int .i64 0,.slice none 0 0,.int .i64 0,.int .i64 0,.int .i64 0,.int .i64 0]) (t:=54) ?hr ?_;(case hd=>rfl);(case hg=>rfl);(case hr=>first|(go_simp;done)|(go_simp;rfl));intro gb428 hg w55 hbox hb;replace HO415:=Aside0.mk (Kd.R_below (zR HO415) hb);replace HO421:=Aside0.mk (Kd.R_below (zR HO421) hb);replace HB:=Aside0.mk (below_step (zI HB HI0) hb);replace HI0:=Aside0.mk (IsS71.below (zJ HI0) hb);have BK428:=Aside0.mk hbox;have GW428:=Aside0.mk ((by rw [hg];exact (keep_size (w:=w) (g:=g) (row:=none) (zK HK)) : w.heap.size≤gb428));have GE428:=Aside0.mk ((Nat.le_trans HW0.out (by rw [hg];exact (keep_size (w:=w) (g:=g) (row:=none) (zK HK)) : w.heap.size≤gb428) : w0.heap.size≤gb428));have NB407_428:=Aside0.mk (zL hg BK407);have NB428_407:=Aside0.mk (zG hg BK407);replace BK407:=Aside0.mk (blk_below (zB BK407) hb);have NB0_428:=Aside0.mk ((by rw [hg];exact Nat.ne_of_lt (Nat.lt_of_lt_of_le HGT.out (show KeepBut w _ g none from zK HK).1) : g≠gb428));have NB428_0:=Aside0.mk ((by rw [hg];exact Nat.ne_of_gt (Nat.lt_of_lt_of_le HGT.out (show KeepBut w _ g none from zK HK).1) : gb428≠g));replace HK:=Aside0.mk (KeepBut.trans (zK HK) (KeepBut.of_below hb g none) (.inl rfl));clear hb hbox hg;have hnb56:=NB428_407.out;have hnc56:=NB407_428.out;have hnb57:=NB428_0.out;have hnc57:=NB0_428.out;have hcz58_0:=zc BK428 0 (.int .i64 0) rfl;have hcz58_1:=zc BK428 1 (.slice none 0 0) rfl;have hcz58_2:=zc BK428 2 (.int .i64 0) rfl;have hcz58_3:=zc BK428 3 (.int .i64 0) rfl;have hcz58_4:=zc BK428 4 (.slice none 0 0) rfl;have hcz58_5:=zc BK428 5 (.int .i64 0) rfl;have hcz58_6:=zc BK428 6 (.int .i64 0) rfl;have hcz58_7:=zc BK428 7 (.int .i64 0) rfl;have hcz58_8:=zc BK428 8 (.int .i64 0) rfl;have hfz58_0:=blk_frozen BK428.out 0;have hfz58_1:=blk_frozen BK428.out 1;have hfz58_2:=blk_frozen BK428.out 2;have hfz58_3:=blk_frozen BK428.out 3;have hfz58_4:=blk_frozen BK428.out 4;have hfz58_5:=blk_frozen BK428.out 5;have hfz58_6:=blk_frozen BK428.out 6;have hfz58_7:=blk_frozen BK428.out 7;have hfz58_8:=blk_frozen BK428.out 8;have hnb59:=NB407_0.out;have hnc59:=NB0_407.out;have hcz60_0:=zc BK407 0 (.int .i64 0) rfl;have hcz60_1:=zc BK407 1 (.slice none 0 0) rfl;have hcz60_2:=zc BK407 2 (.int .i64 0) rfl;have hcz60_3:=zc BK407 3 (.int .i64 0) rfl;have hcz60_4:=zc BK407 4 (.slice none 0 0) rfl;have hcz60_5:=zc BK407 5 (.int .i64 0) rfl;have hcz60_6:=zc BK407 6 (.int .i64 0) rfl;have hcz60_7:=zc BK407 7 (.int .i64 0) rfl;have hcz60_8:=zc BK407 8 (.int .i64 0) rfl;have hfz60_0:=blk_frozen BK407.out 0;have hfz60_1:=blk_frozen BK407.out 1;have hfz60_2:=blk_frozen BK407.out 2;have hfz60_3:=blk_frozen BK407.out 3;have hfz60_4:=blk_frozen BK407.out 4;have hfz60_5:=blk_frozen BK407.out 5;have hfz60_6:=blk_frozen BK407.out 6;have hfz60_7:=blk_frozen BK407.out 7;have hfz60_8:=blk_frozen BK407.out 8))
  refine bodyPost_ret (results_cell_row rfl _ _ gb407 54 #[.int .i64 t412,.slice Ao54 t413.length co54,.int .i64 t417,.int .i64 t418,.slice Ao53 t419.length co53,.int .i64 t423,.int .i64 t424,.int .i64 t425,.int .i64 t426] (0,0) _ rfl (zB BK407) Try.underlying54 rfl zk) rfl ?_
  exact ⟨_,_,zX,by (with_reducible repeat (first|apply Kd.R_alloc|apply Kd.R_drewN|apply Kd.R_drew));exact Kd.R_mono (Kd.R_far (p:=⟨gb407,8,none⟩) (Kd.R_far (p:=⟨gb407,7,none⟩) (Kd.R_far (p:=⟨gb407,6,none⟩) (Kd.R_far (p:=⟨gb407,5,none⟩) (Kd.R_far (p:=⟨gb407,4,none⟩) (Kd.R_far (p:=⟨gb407,3,none⟩) (Kd.R_far (p:=⟨gb407,2,none⟩) (Kd.R_far (p:=⟨gb407,1,none⟩) (Kd.R_far (p:=⟨gb407,0,none⟩) (Kd.R_far (p:=⟨gb428,8,none⟩) (Kd.R_far (p:=⟨gb428,7,none⟩) (Kd.R_far (p:=⟨gb428,6,none⟩) (Kd.R_far (p:=⟨gb428,5,none⟩) (Kd.R_far (p:=⟨gb428,4,none⟩) (Kd.R_far (p:=⟨gb428,3,none⟩) (Kd.R_far (p:=⟨gb428,2,none⟩) (Kd.R_far (p:=⟨gb428,1,none⟩) (Kd.R_far (p:=⟨gb428,0,none⟩) (Kd.R_types (Kd.R_types HO415.out BK428.out (by decide)) BK407.out (by decide)) (fun _ hk=>hk.1.2) (.int .i64 t412)) (fun _ hk=>hk.1.2) (.slice Ao54 t413.length co54)) (fun _ hk=>hk.1.2) (.int .i64 t417)) (fun _ hk=>hk.1.2) (.int .i64 t418)) (fun _ hk=>hk.1.2) (.slice Ao53 t419.length co53)) (fun _ hk=>hk.1.2) (.int .i64 t423)) (fun _ hk=>hk.1.2) (.int .i64 t424)) (fun _ hk=>hk.1.2) (.int .i64 t425)) (fun _ hk=>hk.1.2) (.int .i64 t426)) (fun _ hk=>hk.2) (.int .i64 t412)) (fun _ hk=>hk.2) (.slice Ao54 t413.length co54)) (fun _ hk=>hk.2) (.int .i64 t417)) (fun _ hk=>hk.2) (.int .i64 t418)) (fun _ hk=>hk.2) (.slice Ao53 t419.length co53)) (fun _ hk=>hk.2) (.int .i64 t423)) (fun _ hk=>hk.2) (.int .i64 t424)) (fun _ hk=>hk.2) (.int .i64 t425)) (fun _ hk=>hk.2) (.int .i64 t426)) (fun _ hk=>trivial),by (with_reducible repeat (first|apply Kd.R_alloc|apply Kd.R_drewN|apply Kd.R_drew));exact Kd.R_mono (Kd.R_far (p:=⟨gb407,8,none⟩) (Kd.R_far (p:=⟨gb407,7,none⟩) (Kd.R_far (p:=⟨gb407,6,none⟩) (Kd.R_far (p:=⟨gb407,5,none⟩) (Kd.R_far (p:=⟨gb407,4,none⟩) (Kd.R_far (p:=⟨gb407,3,none⟩) (Kd.R_far (p:=⟨gb407,2,none⟩) (Kd.R_far (p:=⟨gb407,1,none⟩) (Kd.R_far (p:=⟨gb407,0,none⟩) (Kd.R_far (p:=⟨gb428,8,none⟩) (Kd.R_far (p:=⟨gb428,7,none⟩) (Kd.R_far (p:=⟨gb428,6,none⟩) (Kd.R_far (p:=⟨gb428,5,none⟩) (Kd.R_far (p:=⟨gb428,4,none⟩) (Kd.R_far (p:=⟨gb428,3,none⟩) (Kd.R_far (p:=⟨gb428,2,none⟩) (Kd.R_far (p:=⟨gb428,1,none⟩) (Kd.R_far (p:=⟨gb428,0,none⟩) (Kd.R_types (Kd.R_types HO421.out BK428.out (by decide)) BK407.out (by decide)) (fun _ hk=>hk.1.2) (.int .i64 t412)) (fun _ hk=>hk.1.2) (.slice Ao54 t413.length co54)) (fun _ hk=>hk.1.2) (.int .i64 t417)) (fun _ hk=>hk.1.2) (.int .i64 t418)) (fun _ hk=>hk.1.2) (.slice Ao53 t419.length co53)) (fun _ hk=>hk.1.2) (.int .i64 t423)) (fun _ hk=>hk.1.2) (.int .i64 t424)) (fun _ hk=>hk.1.2) (.int .i64 t425)) (fun _ hk=>hk.1.2) (.int .i64 t426)) (fun _ hk=>hk.2) (.int .i64 t412)) (fun _ hk=>hk.2) (.slice Ao54 t413.length co54)) (fun _ hk=>hk.2) (.int .i64 t417)) (fun _ hk=>hk.2) (.int .i64 t418)) (fun _ hk=>hk.2) (.slice Ao53 t419.length co53)) (fun _ hk=>hk.2) (.int .i64 t423)) (fun _ hk=>hk.2) (.int .i64 t424)) (fun _ hk=>hk.2) (.int .i64 t425)) (fun _ hk=>hk.2) (.int .i64 t426)) (fun _ hk=>trivial),by repeat (first|(with_reducible first|exact HI0.out|apply IsS71.alloc|apply IsS71.drewN|apply IsS71.drew|apply IsS71.set_0|refine IsS71.far ?_ NB0_407.out _|refine IsS71.far ?_ NB0_428.out _)|exact HI0.out),by repeat (first|(with_reducible first|exact HB.out|apply below_alloc|apply pw_below_drewN|apply below_drew1|refine below_set ?_ (IsS71.ge HI0.out)|refine below_set ?_ GE407.out|refine below_set ?_ GE428.out)|exact HB.out),zK HK⟩
 rw [if_pos c9] at H
 have c9b0 : ((wrap64 (1+t408)) == a1)=true:=beq_iff_eq.mpr c9
 have c9b1 : ((wrap64 (1+t408)) != a1)=false:=bne_eq_false_iff_eq.mpr c9
 clear c9
 replace H:=Option.bind_eq_some_iff.mp H
 obtain ⟨⟨t429,t430⟩,A100,H⟩:=H
 replace H : (if t429=0 then ((soundserviceref07_Identity.f k a1).bind fun bt431=>(some (t412,t413,bt431.1,bt431.2.1,bt431.2.2.1,t423,t424,t425,t426,t430))) else (some (t412,t413,t417,t418,t419,t423,t424,t425,t426,t430)))=some (r1,r2,r3,r4,r5,r6,r7,r8,r9,r10):=H
 have A10:=Aside0.mk A100
 clear A100
 by_cases c11 : t429=0
 rotate_left
 ·rw [if_neg c11] at H
  have c11b0 : (t429 == 0)=false:=beq_eq_false_iff_ne.mpr c11
  have c11b1 : (t429 != 0)=true:=bne_iff_ne.mpr c11
  simp only [Option.some.injEq,Prod.mk.injEq] at H
  obtain ⟨rfl,rfl,rfl,rfl,rfl,rfl,rfl,rfl,rfl,rfl⟩:=H
  go_enter Try.func25,Try.ntmps25
  go_wp2_with (first|((with_reducible refine gate_dst (N:=6) rfl ?_);refine box_event ?hg (N:=6) ?hd (cs:=#[.int .i64 0,.slice none 0 0,.int .i64 0,.int .i64 0,.slice none 0 0,.int .i64 0,.int .i64 0,.int .i64 0,.int .i64 0]) (t:=54) ?hr ?_;(case hd=>rfl);(case hg=>rfl);(case hr=>first|(go_simp;done)|(go_simp;rfl));intro gb407 hg w31 hbox hb;replace HB:=Aside0.mk (below_step (zI HB HI0) hb);replace HI0:=Aside0.mk (IsS71.below (zJ HI0) hb);have BK407:=Aside0.mk hbox;have GW407:=Aside0.mk ((by rw [hg];exact (keep_size (w:=w) (g:=g) (row:=none) (zK HK)) : w.heap.size≤gb407));have GE407:=Aside0.mk ((Nat.le_trans HW0.out (by rw [hg];exact (keep_size (w:=w) (g:=g) (row:=none) (zK HK)) : w.heap.size≤gb407) : w0.heap.size≤gb407));have NB0_407:=Aside0.mk ((by rw [hg];exact Nat.ne_of_lt (Nat.lt_of_lt_of_le HGT.out (show KeepBut w _ g none from zK HK).1) : g≠gb407));have NB407_0:=Aside0.mk ((by rw [hg];exact Nat.ne_of_gt (Nat.lt_of_lt_of_le HGT.out (show KeepBut w _ g none from zK HK).1) : gb407≠g));replace HK:=Aside0.mk (KeepBut.trans (zK HK) (KeepBut.of_below hb g none) (.inl rfl));clear hb hbox hg)|((with_reducible refine gate_callee (f:=11) rfl ?_);refine goesL_ (some 10) rfl rfl Try.func11 zk rfl #[.pointer (some ⟨g,0,none⟩),.int .i64 3] rfl zA ?_;(with_reducible refine (soundservicemade_Dice_Next.calls g s0_0 3 t408 t409 w0 _ ?side1 ?side2 A4.out).mono ?_);(case side1=>exact zJ HI0);(case side2=>exact zI HB HI0);rintro e w32 ⟨rfl,hi,hb,hk⟩;refine ⟨_,rfl,?_⟩;replace BK407:=Aside0.mk (KeepBut.blk hk (g':=gb407) (o:=.cells #[.int .i64 0,.slice none 0 0,.int .i64 0,.int .i64 0,.slice none 0 0,.int .i64 0,.int .i64 0,.int .i64 0,.int .i64 0] 54 (0,0)) (zB BK407) NB407_0.out (by simp));replace HK:=Aside0.mk (KeepBut.trans (zK HK) hk (.inl rfl));replace HB:=Aside0.mk hb;replace HI0:=Aside0.mk hi;(try clear hb);(try clear hk);(try clear hi))|((with_reducible refine gate_callee (f:=11) rfl ?_);refine goesL_ (some 17) rfl rfl Try.func11 zk rfl #[.pointer (some ⟨g,0,none⟩),.int .i64 (wrap64 (a2+1))] rfl zA ?_;(with_reducible refine (soundservicemade_Dice_Next.calls g t409 (wrap64 (a2+1)) t410 t411 w0 _ ?side1 ?side2 A5.out).mono ?_);(case side1=>exact zJ HI0);(case side2=>exact zI HB HI0);rintro e w33 ⟨rfl,hi,hb,hk⟩;refine ⟨_,rfl,?_⟩;replace BK407:=Aside0.mk (KeepBut.blk hk (g':=gb407) (o:=.cells #[.int .i64 0,.slice none 0 0,.int .i64 0,.int .i64 0,.slice none 0 0,.int .i64 0,.int .i64 0,.int .i64 0,.int .i64 0] 54 (0,0)) (zB BK407) NB407_0.out (by simp));replace HK:=Aside0.mk (KeepBut.trans (zK HK) hk (.inl rfl));replace HB:=Aside0.mk hb;replace HI0:=Aside0.mk hi;(try clear hb);(try clear hk);(try clear hi))|((with_reducible refine gate_callee (f:=27) rfl ?_);refine goesL_ (some 18) rfl rfl Try.func27 zk rfl #[.pointer (some ⟨g,0,none⟩),.int .i64 (wrap64 (1+t408)),.int .i64 t410] rfl zA ?_;(with_reducible refine (soundservicemade_Block.calls k g t411 (wrap64 (1+t408)) t410 t412 t413 t416 w0 _ ?side1 ?side2 A6.out).mono ?_);(case side1=>exact zJ HI0);(case side2=>exact zI HB HI0);rintro e w34 ⟨v414,rfl,ho0,hi,hb,hk⟩;refine ⟨_,rfl,?_⟩;replace BK407:=Aside0.mk (KeepBut.blk hk (g':=gb407) (o:=.cells #[.int .i64 0,.slice none 0 0,.int .i64 0,.int .i64 0,.slice none 0 0,.int .i64 0,.int .i64 0,.int .i64 0,.int .i64 0] 54 (0,0)) (zB BK407) NB407_0.out (by simp));have HO415:=Aside0.mk (Kd.R_lower ho0 (keep_size (w:=w) (g:=g) (row:=none) (zK HK)));replace HK:=Aside0.mk (KeepBut.trans (zK HK) hk (.inl rfl));replace HB:=Aside0.mk hb;replace HI0:=Aside0.mk hi;(try clear hb);(try clear hk);(try clear hi);(try clear ho0))|((with_reducible refine gate_callee (f:=44) rfl ?_);refine goesL_ (some 22) rfl rfl Try.func44 zk rfl #[.pointer (some ⟨g,0,none⟩),.int .i64 (wrap64 (1+t408)),.int .i64 a1] rfl zA ?_;(with_reducible refine (soundservicemade_Matrix.calls k g t416 (wrap64 (1+t408)) a1 t417 t418 t419 t422 w0 _ ?side1 ?side2 A7.out).mono ?_);(case side1=>exact zJ HI0);(case side2=>exact zI HB HI0);rintro e w35 ⟨v420,rfl,ho0,hi,hb,hk⟩;refine ⟨_,rfl,?_⟩;replace BK407:=Aside0.mk (KeepBut.blk hk (g':=gb407) (o:=.cells #[.int .i64 0,.slice none 0 0,.int .i64 0,.int .i64 0,.slice none 0 0,.int .i64 0,.int .i64 0,.int .i64 0,.int .i64 0] 54 (0,0)) (zB BK407) NB407_0.out (by simp));replace HO415:=Aside0.mk (Kd.R_mono (Kd.R_keep (IsS71.apart (show IsS71 w0 _ g t416 from zJ HI0) (zR HO415) (by decide)) hk (fun _ h=>h.2)) (fun _ h=>h.1));have HO421:=Aside0.mk (Kd.R_lower ho0 (keep_size (w:=w) (g:=g) (row:=none) (zK HK)));replace HK:=Aside0.mk (KeepBut.trans (zK HK) hk (.inl rfl));replace HB:=Aside0.mk hb;replace HI0:=Aside0.mk hi;(try clear hb);(try clear hk);(try clear hi);(try clear ho0))|((with_reducible refine gate_callee (f:=45) rfl ?_);refine goesL_ (some 24) rfl rfl Try.func45 zk rfl #[.pointer (some ⟨g,0,none⟩)] rfl zA ?_;(with_reducible refine (soundservicemade_Ramp.calls g t422 t423 t424 t425 t426 t427 w0 _ ?side1 ?side2 A8.out).mono ?_);(case side1=>exact zJ HI0);(case side2=>exact zI HB HI0);rintro e w36 ⟨rfl,hi,hb,hk⟩;refine ⟨_,rfl,?_⟩;replace BK407:=Aside0.mk (KeepBut.blk hk (g':=gb407) (o:=.cells #[.int .i64 0,.slice none 0 0,.int .i64 0,.int .i64 0,.slice none 0 0,.int .i64 0,.int .i64 0,.int .i64 0,.int .i64 0] 54 (0,0)) (zB BK407) NB407_0.out (by simp));replace HO415:=Aside0.mk (Kd.R_mono (Kd.R_keep (IsS71.apart (show IsS71 w0 _ g t422 from zJ HI0) (zR HO415) (by decide)) hk (fun _ h=>h.2)) (fun _ h=>h.1));replace HO421:=Aside0.mk (Kd.R_mono (Kd.R_keep (IsS71.apart (show IsS71 w0 _ g t422 from zJ HI0) (zR HO421) (by decide)) hk (fun _ h=>h.2)) (fun _ h=>h.1));replace HK:=Aside0.mk (KeepBut.trans (zK HK) hk (.inl rfl));replace HB:=Aside0.mk hb;replace HI0:=Aside0.mk hi;(try clear hb);(try clear hk);(try clear hi);obtain ⟨Ao37,co37,eo37⟩:=Kd.R_slice HO421.out;subst eo37;obtain ⟨Ao38,co38,eo38⟩:=Kd.R_slice HO415.out;subst eo38)|((with_reducible refine gate_dst (N:=8) rfl ?_);refine box_event ?hg (N:=8) ?hd (cs:=#[.int .i64 0,.slice none 0 0,.int .i64 0,.int .i64 0,.slice none 0 0,.int .i64 0,.int .i64 0,.int .i64 0,.int .i64 0]) (t:=54) ?hr ?_;(case hd=>rfl);(case hg=>rfl);(case hr=>first|(go_simp;done)|(go_simp;rfl));intro gb428 hg w39 hbox hb;replace HO415:=Aside0.mk (Kd.R_below (zR HO415) hb);replace HO421:=Aside0.mk (Kd.R_below (zR HO421) hb);replace HB:=Aside0.mk (below_step (zI HB HI0) hb);replace HI0:=Aside0.mk (IsS71.below (zJ HI0) hb);have BK428:=Aside0.mk hbox;have GW428:=Aside0.mk ((by rw [hg];exact (keep_size (w:=w) (g:=g) (row:=none) (zK HK)) : w.heap.size≤gb428));have GE428:=Aside0.mk ((Nat.le_trans HW0.out (by rw [hg];exact (keep_size (w:=w) (g:=g) (row:=none) (zK HK)) : w.heap.size≤gb428) : w0.heap.size≤gb428));have NB407_428:=Aside0.mk (zL hg BK407);have NB428_407:=Aside0.mk (zG hg BK407);replace BK407:=Aside0.mk (blk_below (zB BK407) hb);have NB0_428:=Aside0.mk ((by rw [hg];exact Nat.ne_of_lt (Nat.lt_of_lt_of_le HGT.out (show KeepBut w _ g none from zK HK).1) : g≠gb428));have NB428_0:=Aside0.mk ((by rw [hg];exact Nat.ne_of_gt (Nat.lt_of_lt_of_le HGT.out (show KeepBut w _ g none from zK HK).1) : gb428≠g));replace HK:=Aside0.mk (KeepBut.trans (zK HK) (KeepBut.of_below hb g none) (.inl rfl));clear hb hbox hg;have hnb40:=NB428_407.out;have hnc40:=NB407_428.out;have hnb41:=NB428_0.out;have hnc41:=NB0_428.out;have hcz42_0:=zc BK428 0 (.int .i64 0) rfl;have hcz42_1:=zc BK428 1 (.slice none 0 0) rfl;have hcz42_2:=zc BK428 2 (.int .i64 0) rfl;have hcz42_3:=zc BK428 3 (.int .i64 0) rfl;have hcz42_4:=zc BK428 4 (.slice none 0 0) rfl;have hcz42_5:=zc BK428 5 (.int .i64 0) rfl;have hcz42_6:=zc BK428 6 (.int .i64 0) rfl;have hcz42_7:=zc BK428 7 (.int .i64 0) rfl;have hcz42_8:=zc BK428 8 (.int .i64 0) rfl;have hfz42_0:=blk_frozen BK428.out 0;have hfz42_1:=blk_frozen BK428.out 1;have hfz42_2:=blk_frozen BK428.out 2;have hfz42_3:=blk_frozen BK428.out 3;have hfz42_4:=blk_frozen BK428.out 4;have hfz42_5:=blk_frozen BK428.out 5;have hfz42_6:=blk_frozen BK428.out 6;have hfz42_7:=blk_frozen BK428.out 7;have hfz42_8:=blk_frozen BK428.out 8)|(go_at_call 11;(with_reducible refine (soundservicemade_Dice_Next.calls g t427 3 t429 t430 w0 _ ?side1 ?side2 A10.out).mono ?_);(case side1=>exact zJ HI0);(case side2=>exact zI HB HI0);rintro e w43 ⟨rfl,hi,hb,hk⟩;replace BK407:=Aside0.mk (KeepBut.blk hk (g':=gb407) (o:=.cells #[.int .i64 0,.slice none 0 0,.int .i64 0,.int .i64 0,.slice none 0 0,.int .i64 0,.int .i64 0,.int .i64 0,.int .i64 0] 54 (0,0)) (zB BK407) NB407_0.out (by simp));replace HO415:=Aside0.mk (Kd.R_mono (Kd.R_keep (IsS71.apart (show IsS71 w0 _ g t427 from zJ HI0) (by (with_reducible repeat (first|apply Kd.R_alloc|apply Kd.R_drewN|apply Kd.R_drew));exact (Kd.R_mono (Kd.R_far (p:=⟨gb428,8,none⟩) (Kd.R_far (p:=⟨gb428,7,none⟩) (Kd.R_far (p:=⟨gb428,6,none⟩) (Kd.R_far (p:=⟨gb428,5,none⟩) (Kd.R_far (p:=⟨gb428,4,none⟩) (Kd.R_far (p:=⟨gb428,3,none⟩) (Kd.R_far (p:=⟨gb428,2,none⟩) (Kd.R_far (p:=⟨gb428,1,none⟩) (Kd.R_far (p:=⟨gb428,0,none⟩) (Kd.R_types HO415.out BK428.out (by decide)) (fun _ hk=>hk.2) (.int .i64 t412)) (fun _ hk=>hk.2) (.slice Ao38 t413.length co38)) (fun _ hk=>hk.2) (.int .i64 t417)) (fun _ hk=>hk.2) (.int .i64 t418)) (fun _ hk=>hk.2) (.slice Ao37 t419.length co37)) (fun _ hk=>hk.2) (.int .i64 t423)) (fun _ hk=>hk.2) (.int .i64 t424)) (fun _ hk=>hk.2) (.int .i64 t425)) (fun _ hk=>hk.2) (.int .i64 t426)) (fun _ h_=>h_.1))) (by decide)) hk (fun _ h=>h.2)) (fun _ h=>h.1));replace HO421:=Aside0.mk (Kd.R_mono (Kd.R_keep (IsS71.apart (show IsS71 w0 _ g t427 from zJ HI0) (by (with_reducible repeat (first|apply Kd.R_alloc|apply Kd.R_drewN|apply Kd.R_drew));exact (Kd.R_mono (Kd.R_far (p:=⟨gb428,8,none⟩) (Kd.R_far (p:=⟨gb428,7,none⟩) (Kd.R_far (p:=⟨gb428,6,none⟩) (Kd.R_far (p:=⟨gb428,5,none⟩) (Kd.R_far (p:=⟨gb428,4,none⟩) (Kd.R_far (p:=⟨gb428,3,none⟩) (Kd.R_far (p:=⟨gb428,2,none⟩) (Kd.R_far (p:=⟨gb428,1,none⟩) (Kd.R_far (p:=⟨gb428,0,none⟩) (Kd.R_types HO421.out BK428.out (by decide)) (fun _ hk=>hk.2) (.int .i64 t412)) (fun _ hk=>hk.2) (.slice Ao38 t413.length co38)) (fun _ hk=>hk.2) (.int .i64 t417)) (fun _ hk=>hk.2) (.int .i64 t418)) (fun _ hk=>hk.2) (.slice Ao37 t419.length co37)) (fun _ hk=>hk.2) (.int .i64 t423)) (fun _ hk=>hk.2) (.int .i64 t424)) (fun _ hk=>hk.2) (.int .i64 t425)) (fun _ hk=>hk.2) (.int .i64 t426)) (fun _ h_=>h_.1))) (by decide)) hk (fun _ h=>h.2)) (fun _ h=>h.1));replace BK428:=Aside0.mk (KeepBut.blk hk (g':=gb428) (o:=.cells #[.int .i64 t412,.slice Ao38 t413.length co38,.int .i64 t417,.int .i64 t418,.slice Ao37 t419.length co37,.int .i64 t423,.int .i64 t424,.int .i64 t425,.int .i64 t426] 54 (0,0)) (zB BK428) NB428_0.out (by simp));replace HK:=Aside0.mk (KeepBut.trans (zK HK) hk (.inl rfl));replace HB:=Aside0.mk hb;replace HI0:=Aside0.mk hi;(try clear hb);(try clear hk);(try clear hi);have hcz44_0:=zc BK428 0 (.int .i64 t412) rfl;have hcz44_1:=zc BK428 1 (.slice Ao38 t413.length co38) rfl;have hcz44_2:=zc BK428 2 (.int .i64 t417) rfl;have hcz44_3:=zc BK428 3 (.int .i64 t418) rfl;have hcz44_4:=zc BK428 4 (.slice Ao37 t419.length co37) rfl;have hcz44_5:=zc BK428 5 (.int .i64 t423) rfl;have hcz44_6:=zc BK428 6 (.int .i64 t424) rfl;have hcz44_7:=zc BK428 7 (.int .i64 t425) rfl;have hcz44_8:=zc BK428 8 (.int .i64 t426) rfl;have hfz44_0:=blk_frozen BK428.out 0;have hfz44_1:=blk_frozen BK428.out 1;have hfz44_2:=blk_frozen BK428.out 2;have hfz44_3:=blk_frozen BK428.out 3;have hfz44_4:=blk_frozen BK428.out 4;have hfz44_5:=blk_frozen BK428.out 5;have hfz44_6:=blk_frozen BK428.out 6;have hfz44_7:=blk_frozen BK428.out 7;have hfz44_8:=blk_frozen BK428.out 8;have hnb45:=NB407_0.out;have hnc45:=NB0_407.out;have hcz46_0:=zc BK407 0 (.int .i64 0) rfl;have hcz46_1:=zc BK407 1 (.slice none 0 0) rfl;have hcz46_2:=zc BK407 2 (.int .i64 0) rfl;have hcz46_3:=zc BK407 3 (.int .i64 0) rfl;have hcz46_4:=zc BK407 4 (.slice none 0 0) rfl;have hcz46_5:=zc BK407 5 (.int .i64 0) rfl;have hcz46_6:=zc BK407 6 (.int .i64 0) rfl;have hcz46_7:=zc BK407 7 (.int .i64 0) rfl;have hcz46_8:=zc BK407 8 (.int .i64 0) rfl;have hfz46_0:=blk_frozen BK407.out 0;have hfz46_1:=blk_frozen BK407.out 1;have hfz46_2:=blk_frozen BK407.out 2;have hfz46_3:=blk_frozen BK407.out 3;have hfz46_4:=blk_frozen BK407.out 4;have hfz46_5:=blk_frozen BK407.out 5;have hfz46_6:=blk_frozen BK407.out 6;have hfz46_7:=blk_frozen BK407.out 7;have hfz46_8:=blk_frozen BK407.out 8))
  refine bodyPost_ret (results_cell_row rfl _ _ gb407 54 #[.int .i64 t412,.slice Ao38 t413.length co38,.int .i64 t417,.int .i64 t418,.slice Ao37 t419.length co37,.int .i64 t423,.int .i64 t424,.int .i64 t425,.int .i64 t426] (0,0) _ rfl (zB BK407) Try.underlying54 rfl zk) rfl ?_
  exact ⟨_,_,zX,by (with_reducible repeat (first|apply Kd.R_alloc|apply Kd.R_drewN|apply Kd.R_drew));exact Kd.R_mono (Kd.R_far (p:=⟨gb407,8,none⟩) (Kd.R_far (p:=⟨gb407,7,none⟩) (Kd.R_far (p:=⟨gb407,6,none⟩) (Kd.R_far (p:=⟨gb407,5,none⟩) (Kd.R_far (p:=⟨gb407,4,none⟩) (Kd.R_far (p:=⟨gb407,3,none⟩) (Kd.R_far (p:=⟨gb407,2,none⟩) (Kd.R_far (p:=⟨gb407,1,none⟩) (Kd.R_far (p:=⟨gb407,0,none⟩) (Kd.R_types HO415.out BK407.out (by decide)) (fun _ hk=>hk.2) (.int .i64 t412)) (fun _ hk=>hk.2) (.slice Ao38 t413.length co38)) (fun _ hk=>hk.2) (.int .i64 t417)) (fun _ hk=>hk.2) (.int .i64 t418)) (fun _ hk=>hk.2) (.slice Ao37 t419.length co37)) (fun _ hk=>hk.2) (.int .i64 t423)) (fun _ hk=>hk.2) (.int .i64 t424)) (fun _ hk=>hk.2) (.int .i64 t425)) (fun _ hk=>hk.2) (.int .i64 t426)) (fun _ hk=>trivial),by (with_reducible repeat (first|apply Kd.R_alloc|apply Kd.R_drewN|apply Kd.R_drew));exact Kd.R_mono (Kd.R_far (p:=⟨gb407,8,none⟩) (Kd.R_far (p:=⟨gb407,7,none⟩) (Kd.R_far (p:=⟨gb407,6,none⟩) (Kd.R_far (p:=⟨gb407,5,none⟩) (Kd.R_far (p:=⟨gb407,4,none⟩) (Kd.R_far (p:=⟨gb407,3,none⟩) (Kd.R_far (p:=⟨gb407,2,none⟩) (Kd.R_far (p:=⟨gb407,1,none⟩) (Kd.R_far (p:=⟨gb407,0,none⟩) (Kd.R_types HO421.out BK407.out (by decide)) (fun _ hk=>hk.2) (.int .i64 t412)) (fun _ hk=>hk.2) (.slice Ao38 t413.length co38)) (fun _ hk=>hk.2) (.int .i64 t417)) (fun _ hk=>hk.2) (.int .i64 t418)) (fun _ hk=>hk.2) (.slice Ao37 t419.length co37)) (fun _ hk=>hk.2) (.int .i64 t423)) (fun _ hk=>hk.2) (.int .i64 t424)) (fun _ hk=>hk.2) (.int .i64 t425)) (fun _ hk=>hk.2) (.int .i64 t426)) (fun _ hk=>trivial),by repeat (first|(with_reducible first|exact HI0.out|apply IsS71.alloc|apply IsS71.drewN|apply IsS71.drew|apply IsS71.set_0|refine IsS71.far ?_ NB0_407.out _|refine IsS71.far ?_ NB0_428.out _)|exact HI0.out),by repeat (first|(with_reducible first|exact HB.out|apply below_alloc|apply pw_below_drewN|apply below_drew1|refine below_set ?_ (IsS71.ge HI0.out)|refine below_set ?_ GE407.out|refine below_set ?_ GE428.out)|exact HB.out),zK HK⟩
 rw [if_pos c11] at H
 have c11b0 : (t429 == 0)=true:=beq_iff_eq.mpr c11
 have c11b1 : (t429 != 0)=false:=bne_eq_false_iff_eq.mpr c11
 clear c11
 replace H:=Option.bind_eq_some_iff.mp H
 obtain ⟨⟨t431,t432,t433,t436⟩,A120,H⟩:=H
 replace H : (some (t412,t413,t431,t432,t433,t423,t424,t425,t426,t430))=some (r1,r2,r3,r4,r5,r6,r7,r8,r9,r10):=H
 have A12:=Aside0.mk A120
 clear A120
 simp only [Option.some.injEq,Prod.mk.injEq] at H
 obtain ⟨rfl,rfl,rfl,rfl,rfl,rfl,rfl,rfl,rfl,rfl⟩:=H
 go_enter Try.func25,Try.ntmps25
 go_wp2_with (first|((with_reducible refine gate_dst (N:=6) rfl ?_);refine box_event ?hg (N:=6) ?hd (cs:=#[.int .i64 0,.slice none 0 0,.int .i64 0,.int .i64 0,.slice none 0 0,.int .i64 0,.int .i64 0,.int .i64 0,.int .i64 0]) (t:=54) ?hr ?_;(case hd=>rfl);(case hg=>rfl);(case hr=>first|(go_simp;done)|(go_simp;rfl));intro gb407 hg w13 hbox hb;replace HB:=Aside0.mk (below_step (zI HB HI0) hb);replace HI0:=Aside0.mk (IsS71.below (zJ HI0) hb);have BK407:=Aside0.mk hbox;have GW407:=Aside0.mk ((by rw [hg];exact (keep_size (w:=w) (g:=g) (row:=none) (zK HK)) : w.heap.size≤gb407));have GE407:=Aside0.mk ((Nat.le_trans HW0.out (by rw [hg];exact (keep_size (w:=w) (g:=g) (row:=none) (zK HK)) : w.heap.size≤gb407) : w0.heap.size≤gb407));have NB0_407:=Aside0.mk ((by rw [hg];exact Nat.ne_of_lt (Nat.lt_of_lt_of_le HGT.out (show KeepBut w _ g none from zK HK).1) : g≠gb407));have NB407_0:=Aside0.mk ((by rw [hg];exact Nat.ne_of_gt (Nat.lt_of_lt_of_le HGT.out (show KeepBut w _ g none from zK HK).1) : gb407≠g));replace HK:=Aside0.mk (KeepBut.trans (zK HK) (KeepBut.of_below hb g none) (.inl rfl));clear hb hbox hg)|((with_reducible refine gate_callee (f:=11) rfl ?_);refine goesL_ (some 10) rfl rfl Try.func11 zk rfl #[.pointer (some ⟨g,0,none⟩),.int .i64 3] rfl zA ?_;(with_reducible refine (soundservicemade_Dice_Next.calls g s0_0 3 t408 t409 w0 _ ?side1 ?side2 A4.out).mono ?_);(case side1=>exact zJ HI0);(case side2=>exact zI HB HI0);rintro e w14 ⟨rfl,hi,hb,hk⟩;refine ⟨_,rfl,?_⟩;replace BK407:=Aside0.mk (KeepBut.blk hk (g':=gb407) (o:=.cells #[.int .i64 0,.slice none 0 0,.int .i64 0,.int .i64 0,.slice none 0 0,.int .i64 0,.int .i64 0,.int .i64 0,.int .i64 0] 54 (0,0)) (zB BK407) NB407_0.out (by simp));replace HK:=Aside0.mk (KeepBut.trans (zK HK) hk (.inl rfl));replace HB:=Aside0.mk hb;replace HI0:=Aside0.mk hi;(try clear hb);(try clear hk);(try clear hi))|((with_reducible refine gate_callee (f:=11) rfl ?_);refine goesL_ (some 17) rfl rfl Try.func11 zk rfl #[.pointer (some ⟨g,0,none⟩),.int .i64 (wrap64 (a2+1))] rfl zA ?_;(with_reducible refine (soundservicemade_Dice_Next.calls g t409 (wrap64 (a2+1)) t410 t411 w0 _ ?side1 ?side2 A5.out).mono ?_);(case side1=>exact zJ HI0);(case side2=>exact zI HB HI0);rintro e w15 ⟨rfl,hi,hb,hk⟩;refine ⟨_,rfl,?_⟩;replace BK407:=Aside0.mk (KeepBut.blk hk (g':=gb407) (o:=.cells #[.int .i64 0,.slice none 0 0,.int .i64 0,.int .i64 0,.slice none 0 0,.int .i64 0,.int .i64 0,.int .i64 0,.int .i64 0] 54 (0,0)) (zB BK407) NB407_0.out (by simp));replace HK:=Aside0.mk (KeepBut.trans (zK HK) hk (.inl rfl));replace HB:=Aside0.mk hb;replace HI0:=Aside0.mk hi;(try clear hb);(try clear hk);(try clear hi))|((with_reducible refine gate_callee (f:=27) rfl ?_);refine goesL_ (some 18) rfl rfl Try.func27 zk rfl #[.pointer (some ⟨g,0,none⟩),.int .i64 (wrap64 (1+t408)),.int .i64 t410] rfl zA ?_;(with_reducible refine (soundservicemade_Block.calls k g t411 (wrap64 (1+t408)) t410 t412 t413 t416 w0 _ ?side1 ?side2 A6.out).mono ?_);(case side1=>exact zJ HI0);(case side2=>exact zI HB HI0);rintro e w16 ⟨v414,rfl,ho0,hi,hb,hk⟩;refine ⟨_,rfl,?_⟩;replace BK407:=Aside0.mk (KeepBut.blk hk (g':=gb407) (o:=.cells #[.int .i64 0,.slice none 0 0,.int .i64 0,.int .i64 0,.slice none 0 0,.int .i64 0,.int .i64 0,.int .i64 0,.int .i64 0] 54 (0,0)) (zB BK407) NB407_0.out (by simp));have HO415:=Aside0.mk (Kd.R_lower ho0 (keep_size (w:=w) (g:=g) (row:=none) (zK HK)));replace HK:=Aside0.mk (KeepBut.trans (zK HK) hk (.inl rfl));replace HB:=Aside0.mk hb;replace HI0:=Aside0.mk hi;(try clear hb);(try clear hk);(try clear hi);(try clear ho0))|((with_reducible refine gate_callee (f:=44) rfl ?_);refine goesL_ (some 22) rfl rfl Try.func44 zk rfl #[.pointer (some ⟨g,0,none⟩),.int .i64 (wrap64 (1+t408)),.int .i64 a1] rfl zA ?_;(with_reducible refine (soundservicemade_Matrix.calls k g t416 (wrap64 (1+t408)) a1 t417 t418 t419 t422 w0 _ ?side1 ?side2 A7.out).mono ?_);(case side1=>exact zJ HI0);(case side2=>exact zI HB HI0);rintro e w17 ⟨v420,rfl,ho0,hi,hb,hk⟩;refine ⟨_,rfl,?_⟩;replace BK407:=Aside0.mk (KeepBut.blk hk (g':=gb407) (o:=.cells #[.int .i64 0,.slice none 0 0,.int .i64 0,.int .i64 0,.slice none 0 0,.int .i64 0,.int .i64 0,.int .i64 0,.int .i64 0] 54 (0,0)) (zB BK407) NB407_0.out (by simp));replace HO415:=Aside0.mk (Kd.R_mono (Kd.R_keep (IsS71.apart (show IsS71 w0 _ g t416 from zJ HI0) (zR HO415) (by decide)) hk (fun _ h=>h.2)) (fun _ h=>h.1));have HO421:=Aside0.mk (Kd.R_lower ho0 (keep_size (w:=w) (g:=g) (row:=none) (zK HK)));replace HK:=Aside0.mk (KeepBut.trans (zK HK) hk (.inl rfl));replace HB:=Aside0.mk hb;replace HI0:=Aside0.mk hi;(try clear hb);(try clear hk);(try clear hi);(try clear ho0))|((with_reducible refine gate_callee (f:=45) rfl ?_);refine goesL_ (some 24) rfl rfl Try.func45 zk rfl #[.pointer (some ⟨g,0,none⟩)] rfl zA ?_;(with_reducible refine (soundservicemade_Ramp.calls g t422 t423 t424 t425 t426 t427 w0 _ ?side1 ?side2 A8.out).mono ?_);(case side1=>exact zJ HI0);(case side2=>exact zI HB HI0);rintro e w18 ⟨rfl,hi,hb,hk⟩;refine ⟨_,rfl,?_⟩;replace BK407:=Aside0.mk (KeepBut.blk hk (g':=gb407) (o:=.cells #[.int .i64 0,.slice none 0 0,.int .i64 0,.int .i64 0,.slice none 0 0,.int .i64 0,.int .i64 0,.int .i64 0,.int .i64 0] 54 (0,0)) (zB BK407) NB407_0.out (by simp));replace HO415:=Aside0.mk (Kd.R_mono (Kd.R_keep (IsS71.apart (show IsS71 w0 _ g t422 from zJ HI0) (zR HO415) (by decide)) hk (fun _ h=>h.2)) (fun _ h=>h.1));replace HO421:=Aside0.mk (Kd.R_mono (Kd.R_keep (IsS71.apart (show IsS71 w0 _ g t422 from zJ HI0) (zR HO421) (by decide)) hk (fun _ h=>h.2)) (fun _ h=>h.1));replace HK:=Aside0.mk (KeepBut.trans (zK HK) hk (.inl rfl));replace HB:=Aside0.mk hb;replace HI0:=Aside0.mk hi;(try clear hb);(try clear hk);(try clear hi);obtain ⟨Ao19,co19,eo19⟩:=Kd.R_slice HO421.out;subst eo19;obtain ⟨Ao20,co20,eo20⟩:=Kd.R_slice HO415.out;subst eo20)|((with_reducible refine gate_dst (N:=8) rfl ?_);refine box_event ?hg (N:=8) ?hd (cs:=#[.int .i64 0,.slice none 0 0,.int .i64 0,.int .i64 0,.slice none 0 0,.int .i64 0,.int .i64 0,.int .i64 0,.int .i64 0]) (t:=54) ?hr ?_;(case hd=>rfl);(case hg=>rfl);(case hr=>first|(go_simp;done)|(go_simp;rfl));intro gb428 hg w21 hbox hb;replace HO415:=Aside0.mk (Kd.R_below (zR HO415) hb);replace HO421:=Aside0.mk (Kd.R_below (zR HO421) hb);replace HB:=Aside0.mk (below_step (zI HB HI0) hb);replace HI0:=Aside0.mk (IsS71.below (zJ HI0) hb);have BK428:=Aside0.mk hbox;have GW428:=Aside0.mk ((by rw [hg];exact (keep_size (w:=w) (g:=g) (row:=none) (zK HK)) : w.heap.size≤gb428));have GE428:=Aside0.mk ((Nat.le_trans HW0.out (by rw [hg];exact (keep_size (w:=w) (g:=g) (row:=none) (zK HK)) : w.heap.size≤gb428) : w0.heap.size≤gb428));have NB407_428:=Aside0.mk (zL hg BK407);have NB428_407:=Aside0.mk (zG hg BK407);replace BK407:=Aside0.mk (blk_below (zB BK407) hb);have NB0_428:=Aside0.mk ((by rw [hg];exact Nat.ne_of_lt (Nat.lt_of_lt_of_le HGT.out (show KeepBut w _ g none from zK HK).1) : g≠gb428));have NB428_0:=Aside0.mk ((by rw [hg];exact Nat.ne_of_gt (Nat.lt_of_lt_of_le HGT.out (show KeepBut w _ g none from zK HK).1) : gb428≠g));replace HK:=Aside0.mk (KeepBut.trans (zK HK) (KeepBut.of_below hb g none) (.inl rfl));clear hb hbox hg;have hnb22:=NB428_407.out;have hnc22:=NB407_428.out;have hnb23:=NB428_0.out;have hnc23:=NB0_428.out;have hcz24_0:=zc BK428 0 (.int .i64 0) rfl;have hcz24_1:=zc BK428 1 (.slice none 0 0) rfl;have hcz24_2:=zc BK428 2 (.int .i64 0) rfl;have hcz24_3:=zc BK428 3 (.int .i64 0) rfl;have hcz24_4:=zc BK428 4 (.slice none 0 0) rfl;have hcz24_5:=zc BK428 5 (.int .i64 0) rfl;have hcz24_6:=zc BK428 6 (.int .i64 0) rfl;have hcz24_7:=zc BK428 7 (.int .i64 0) rfl;have hcz24_8:=zc BK428 8 (.int .i64 0) rfl;have hfz24_0:=blk_frozen BK428.out 0;have hfz24_1:=blk_frozen BK428.out 1;have hfz24_2:=blk_frozen BK428.out 2;have hfz24_3:=blk_frozen BK428.out 3;have hfz24_4:=blk_frozen BK428.out 4;have hfz24_5:=blk_frozen BK428.out 5;have hfz24_6:=blk_frozen BK428.out 6;have hfz24_7:=blk_frozen BK428.out 7;have hfz24_8:=blk_frozen BK428.out 8)|(go_at_call 11;(with_reducible refine (soundservicemade_Dice_Next.calls g t427 3 t429 t430 w0 _ ?side1 ?side2 A10.out).mono ?_);(case side1=>exact zJ HI0);(case side2=>exact zI HB HI0);rintro e w25 ⟨rfl,hi,hb,hk⟩;replace BK407:=Aside0.mk (KeepBut.blk hk (g':=gb407) (o:=.cells #[.int .i64 0,.slice none 0 0,.int .i64 0,.int .i64 0,.slice none 0 0,.int .i64 0,.int .i64 0,.int .i64 0,.int .i64 0] 54 (0,0)) (zB BK407) NB407_0.out (by simp));replace HO415:=Aside0.mk (Kd.R_mono (Kd.R_keep (IsS71.apart (show IsS71 w0 _ g t427 from zJ HI0) (by (with_reducible repeat (first|apply Kd.R_alloc|apply Kd.R_drewN|apply Kd.R_drew));exact (Kd.R_mono (Kd.R_far (p:=⟨gb428,8,none⟩) (Kd.R_far (p:=⟨gb428,7,none⟩) (Kd.R_far (p:=⟨gb428,6,none⟩) (Kd.R_far (p:=⟨gb428,5,none⟩) (Kd.R_far (p:=⟨gb428,4,none⟩) (Kd.R_far (p:=⟨gb428,3,none⟩) (Kd.R_far (p:=⟨gb428,2,none⟩) (Kd.R_far (p:=⟨gb428,1,none⟩) (Kd.R_far (p:=⟨gb428,0,none⟩) (Kd.R_types HO415.out BK428.out (by decide)) (fun _ hk=>hk.2) (.int .i64 t412)) (fun _ hk=>hk.2) (.slice Ao20 t413.length co20)) (fun _ hk=>hk.2) (.int .i64 t417)) (fun _ hk=>hk.2) (.int .i64 t418)) (fun _ hk=>hk.2) (.slice Ao19 t419.length co19)) (fun _ hk=>hk.2) (.int .i64 t423)) (fun _ hk=>hk.2) (.int .i64 t424)) (fun _ hk=>hk.2) (.int .i64 t425)) (fun _ hk=>hk.2) (.int .i64 t426)) (fun _ h_=>h_.1))) (by decide)) hk (fun _ h=>h.2)) (fun _ h=>h.1));replace HO421:=Aside0.mk (Kd.R_mono (Kd.R_keep (IsS71.apart (show IsS71 w0 _ g t427 from zJ HI0) (by (with_reducible repeat (first|apply Kd.R_alloc|apply Kd.R_drewN|apply Kd.R_drew));exact (Kd.R_mono (Kd.R_far (p:=⟨gb428,8,none⟩) (Kd.R_far (p:=⟨gb428,7,none⟩) (Kd.R_far (p:=⟨gb428,6,none⟩) (Kd.R_far (p:=⟨gb428,5,none⟩) (Kd.R_far (p:=⟨gb428,4,none⟩) (Kd.R_far (p:=⟨gb428,3,none⟩) (Kd.R_far (p:=⟨gb428,2,none⟩) (Kd.R_far (p:=⟨gb428,1,none⟩) (Kd.R_far (p:=⟨gb428,0,none⟩) (Kd.R_types HO421.out BK428.out (by decide)) (fun _ hk=>hk.2) (.int .i64 t412)) (fun _ hk=>hk.2) (.slice Ao20 t413.length co20)) (fun _ hk=>hk.2) (.int .i64 t417)) (fun _ hk=>hk.2) (.int .i64 t418)) (fun _ hk=>hk.2) (.slice Ao19 t419.length co19)) (fun _ hk=>hk.2) (.int .i64 t423)) (fun _ hk=>hk.2) (.int .i64 t424)) (fun _ hk=>hk.2) (.int .i64 t425)) (fun _ hk=>hk.2) (.int .i64 t426)) (fun _ h_=>h_.1))) (by decide)) hk (fun _ h=>h.2)) (fun _ h=>h.1));replace BK428:=Aside0.mk (KeepBut.blk hk (g':=gb428) (o:=.cells #[.int .i64 t412,.slice Ao20 t413.length co20,.int .i64 t417,.int .i64 t418,.slice Ao19 t419.length co19,.int .i64 t423,.int .i64 t424,.int .i64 t425,.int .i64 t426] 54 (0,0)) (zB BK428) NB428_0.out (by simp));replace HK:=Aside0.mk (KeepBut.trans (zK HK) hk (.inl rfl));replace HB:=Aside0.mk hb;replace HI0:=Aside0.mk hi;(try clear hb);(try clear hk);(try clear hi))|((with_reducible refine gate_callee (f:=26) rfl ?_);refine goesL_ (some 36) rfl rfl Try.func26 zk rfl #[.int .i64 a1] rfl zA ?_;(with_reducible refine (soundserviceref07_Identity.calls k a1 t431 t432 t433 t436 _ A12.out).mono ?_);rintro e w26 ⟨v434,rfl,ho0,hb⟩;refine ⟨_,rfl,?_⟩;replace HO415:=Aside0.mk (Kd.R_below (zR HO415) hb);have HO435:=Aside0.mk (Kd.R_lower (Kd.R_new' ho0 (Kd.R_lt (zR HO421))) (keep_size (w:=w) (g:=g) (row:=none) (zK HK)));replace HO421:=Aside0.mk (Kd.R_elder' (zR HO421) (Kd.R_base ho0) hb);replace BK407:=Aside0.mk (blk_below (zB BK407) hb);replace BK428:=Aside0.mk (blk_below (zB BK428) hb);replace HK:=Aside0.mk (KeepBut.trans (zK HK) (KeepBut.of_below hb g none) (.inl rfl));replace HB:=Aside0.mk (below_step (zI HB HI0) hb);replace HI0:=Aside0.mk (IsS71.below (zJ HI0) hb);(try clear hb);(try clear ho0);have hcz27_0:=zc BK428 0 (.int .i64 t412) rfl;have hcz27_1:=zc BK428 1 (.slice Ao20 t413.length co20) rfl;have hcz27_2:=zc BK428 2 (.int .i64 t417) rfl;have hcz27_3:=zc BK428 3 (.int .i64 t418) rfl;have hcz27_4:=zc BK428 4 (.slice Ao19 t419.length co19) rfl;have hcz27_5:=zc BK428 5 (.int .i64 t423) rfl;have hcz27_6:=zc BK428 6 (.int .i64 t424) rfl;have hcz27_7:=zc BK428 7 (.int .i64 t425) rfl;have hcz27_8:=zc BK428 8 (.int .i64 t426) rfl;have hfz27_0:=blk_frozen BK428.out 0;have hfz27_1:=blk_frozen BK428.out 1;have hfz27_2:=blk_frozen BK428.out 2;have hfz27_3:=blk_frozen BK428.out 3;have hfz27_4:=blk_frozen BK428.out 4;have hfz27_5:=blk_frozen BK428.out 5;have hfz27_6:=blk_frozen BK428.out 6;have hfz27_7:=blk_frozen BK428.out 7;have hfz27_8:=blk_frozen BK428.out 8;obtain ⟨Ao28,co28,eo28⟩:=Kd.R_slice HO435.out;subst eo28;have hnb29:=NB407_0.out;have hnc29:=NB0_407.out;have hcz30_0:=zc BK407 0 (.int .i64 0) rfl;have hcz30_1:=zc BK407 1 (.slice none 0 0) rfl;have hcz30_2:=zc BK407 2 (.int .i64 0) rfl;have hcz30_3:=zc BK407 3 (.int .i64 0) rfl;have hcz30_4:=zc BK407 4 (.slice none 0 0) rfl;have hcz30_5:=zc BK407 5 (.int .i64 0) rfl;have hcz30_6:=zc BK407 6 (.int .i64 0) rfl;have hcz30_7:=zc BK407 7 (.int .i64 0) rfl;have hcz30_8:=zc BK407 8 (.int .i64 0) rfl;have hfz30_0:=blk_frozen BK407.out 0;have hfz30_1:=blk_frozen BK407.out 1;have hfz30_2:=blk_frozen BK407.out 2;have hfz30_3:=blk_frozen BK407.out 3;have hfz30_4:=blk_frozen BK407.out 4;have hfz30_5:=blk_frozen BK407.out 5;have hfz30_6:=blk_frozen BK407.out 6;have hfz30_7:=blk_frozen BK407.out 7;have hfz30_8:=blk_frozen BK407.out 8))
 refine bodyPost_ret (results_cell_row rfl _ _ gb407 54 #[.int .i64 t412,.slice Ao20 t413.length co20,.int .i64 t431,.int .i64 t432,.slice Ao28 t433.length co28,.int .i64 t423,.int .i64 t424,.int .i64 t425,.int .i64 t426] (0,0) _ rfl (zB BK407) Try.underlying54 rfl zk) rfl ?_
 exact ⟨_,_,zX,by (with_reducible repeat (first|apply Kd.R_alloc|apply Kd.R_drewN|apply Kd.R_drew));exact Kd.R_mono (Kd.R_far (p:=⟨gb407,8,none⟩) (Kd.R_far (p:=⟨gb407,7,none⟩) (Kd.R_far (p:=⟨gb407,6,none⟩) (Kd.R_far (p:=⟨gb407,5,none⟩) (Kd.R_far (p:=⟨gb407,4,none⟩) (Kd.R_far (p:=⟨gb407,3,none⟩) (Kd.R_far (p:=⟨gb407,2,none⟩) (Kd.R_far (p:=⟨gb407,1,none⟩) (Kd.R_far (p:=⟨gb407,0,none⟩) (Kd.R_far (p:=⟨gb428,4,none⟩) (Kd.R_far (p:=⟨gb428,3,none⟩) (Kd.R_far (p:=⟨gb428,2,none⟩) (Kd.R_types (Kd.R_types HO415.out BK428.out (by decide)) BK407.out (by decide)) (fun _ hk=>hk.1.2) (.int .i64 t431)) (fun _ hk=>hk.1.2) (.int .i64 t432)) (fun _ hk=>hk.1.2) (.slice Ao28 t433.length co28)) (fun _ hk=>hk.2) (.int .i64 t412)) (fun _ hk=>hk.2) (.slice Ao20 t413.length co20)) (fun _ hk=>hk.2) (.int .i64 t431)) (fun _ hk=>hk.2) (.int .i64 t432)) (fun _ hk=>hk.2) (.slice Ao28 t433.length co28)) (fun _ hk=>hk.2) (.int .i64 t423)) (fun _ hk=>hk.2) (.int .i64 t424)) (fun _ hk=>hk.2) (.int .i64 t425)) (fun _ hk=>hk.2) (.int .i64 t426)) (fun _ hk=>trivial),by (with_reducible repeat (first|apply Kd.R_alloc|apply Kd.R_drewN|apply Kd.R_drew));exact Kd.R_mono (Kd.R_far (p:=⟨gb407,8,none⟩) (Kd.R_far (p:=⟨gb407,7,none⟩) (Kd.R_far (p:=⟨gb407,6,none⟩) (Kd.R_far (p:=⟨gb407,5,none⟩) (Kd.R_far (p:=⟨gb407,4,none⟩) (Kd.R_far (p:=⟨gb407,3,none⟩) (Kd.R_far (p:=⟨gb407,2,none⟩) (Kd.R_far (p:=⟨gb407,1,none⟩) (Kd.R_far (p:=⟨gb407,0,none⟩) (Kd.R_far (p:=⟨gb428,4,none⟩) (Kd.R_far (p:=⟨gb428,3,none⟩) (Kd.R_far (p:=⟨gb428,2,none⟩) (Kd.R_types (Kd.R_types HO435.out BK428.out (by decide)) BK407.out (by decide)) (fun _ hk=>hk.1.2) (.int .i64 t431)) (fun _ hk=>hk.1.2) (.int .i64 t432)) (fun _ hk=>hk.1.2) (.slice Ao28 t433.length co28)) (fun _ hk=>hk.2) (.int .i64 t412)) (fun _ hk=>hk.2) (.slice Ao20 t413.length co20)) (fun _ hk=>hk.2) (.int .i64 t431)) (fun _ hk=>hk.2) (.int .i64 t432)) (fun _ hk=>hk.2) (.slice Ao28 t433.length co28)) (fun _ hk=>hk.2) (.int .i64 t423)) (fun _ hk=>hk.2) (.int .i64 t424)) (fun _ hk=>hk.2) (.int .i64 t425)) (fun _ hk=>hk.2) (.int .i64 t426)) (fun _ hk=>trivial),by repeat (first|(with_reducible first|exact HI0.out|apply IsS71.alloc|apply IsS71.drewN|apply IsS71.drew|apply IsS71.set_0|refine IsS71.far ?_ NB0_407.out _|refine IsS71.far ?_ NB0_428.out _)|exact HI0.out),by repeat (first|(with_reducible first|exact HB.out|apply below_alloc|apply pw_below_drewN|apply below_drew1|refine below_set ?_ (IsS71.ge HI0.out)|refine below_set ?_ GE407.out|refine below_set ?_ GE428.out)|exact HB.out),zK HK⟩

/-! ### soundservicelaw23_made: function 12 -/
def soundservicelaw23_made.l0 : Nat→Int→Int→List (S54)→Int→List Int→Option ((List (S54))×List Int)
 | 0,_,_,_,_,_=>none
 | k+1,x1,x2,x7,x8,x1000=>if x8>0 then ((soundservicemade_Input.f k x1000 x1 x2).bind fun bt439=>(if x7.length<1353245080339 then (soundservicelaw23_made.l0 k x1 x2 (x7 ++ [(⟨(⟨bt439.1,bt439.2.1⟩ : S43),(⟨bt439.2.2.1,bt439.2.2.2.1,bt439.2.2.2.2.1⟩ : S50),(⟨bt439.2.2.2.2.2.1,bt439.2.2.2.2.2.2.1,bt439.2.2.2.2.2.2.2.1,bt439.2.2.2.2.2.2.2.2.1⟩ : S52)⟩ : S54)]) (wrap64 (x8 - 1)) bt439.2.2.2.2.2.2.2.2.2) else (none))) else (some (x7,x1000))
def soundservicelaw23_made.f (k : Nat) (s0_0 : List Int) (a1 : Int) (a2 : Int) : Option ((List (S54))×List Int):=(soundservicemade_Dice_Next.f s0_0 5).bind fun bt437=>(soundservicelaw23_made.l0 k a1 a2 ([] : List (S54)) bt437.1 bt437.2)
theorem soundservicelaw23_made.mono_l : ∀ k,(∀ y0 y1 y2 y3 y4,LeO (soundservicelaw23_made.l0 k y0 y1 y2 y3 y4) (soundservicelaw23_made.l0 (k+1) y0 y1 y2 y3 y4))
 | 0=>fun _ _ _ _ _ r h=>by simp [soundservicelaw23_made.l0] at h
 | k+1=>by
  have ih0:=soundservicelaw23_made.mono_l k
  ·intro y0 y1 y2 y3 y4
   unfold soundservicelaw23_made.l0
   repeat' first
   | (with_reducible exact ih0 _ _ _ _ _)
   | (with_reducible exact soundservicemade_Input.mono _ _ _ _)
   | (with_reducible exact LeO.refl _)
   | (with_reducible exact LeO.none _)
   | (with_reducible refine LeO.ite ?_ ?_)
   | (with_reducible refine LeO.bind ?_ (fun _=>?_))
   | exact ih0 _ _ _ _ _
   | exact soundservicemade_Input.mono _ _ _ _
   | exact LeO.none _
   | refine LeO.ite ?_ ?_
   | refine LeO.bind ?_ (fun _=>?_)
theorem soundservicelaw23_made.mono : ∀ a0 a1 a2 k,LeO (soundservicelaw23_made.f k a0 a1 a2) (soundservicelaw23_made.f (k+1) a0 a1 a2):=by
 intro a0 a1 a2 k
 have ih0:=soundservicelaw23_made.mono_l k
 unfold soundservicelaw23_made.f
 repeat' first
   | (with_reducible exact ih0 _ _ _ _ _)
   | (with_reducible exact soundservicemade_Input.mono _ _ _ _)
   | (with_reducible exact LeO.refl _)
   | (with_reducible exact LeO.none _)
   | (with_reducible refine LeO.ite ?_ ?_)
   | (with_reducible refine LeO.bind ?_ (fun _=>?_))
   | exact ih0 _ _ _ _ _
   | exact soundservicemade_Input.mono _ _ _ _
   | exact LeO.none _
   | refine LeO.ite ?_ ?_
   | refine LeO.bind ?_ (fun _=>?_)
set_option maxHeartbeats 8000000 in
set_option maxRecDepth 100000 in
theorem soundservicelaw23_made.calls (k : Nat) (g : Nat) (s0_0 : List Int) (a1 : Int) (a2 : Int) (r1 : List (S54)) (r2 : List Int) (w0 w : World) (hI : IsS71 w0 w g s0_0) (hB : Below w0.heap.size w0 w) (h : soundservicelaw23_made.f k s0_0 a1 a2=some (r1,r2)) :
  Calls Try.prog 12 #[.pointer (some ⟨g,0,none⟩),.int .i64 a1,.int .i64 a2] w fun e w'=>∃ v0_ : Value,e = .returned (v0_)∧Kd.S k54 54 w' w.heap.size (fun _=>True) v0_ r1∧IsS71 w0 w' g r2∧Below w0.heap.size w0 w'∧KeepBut w w' g none:=by
 have HGT:=Aside0.mk (IsS71.lt hI)
 have HI0:=Aside0.mk hI
 have HK:=Aside0.mk (KeepBut.refl w g none)
 have HL:=Aside0.mk hB.size
 clear hI
 have HW0:=Aside0.mk hB.size
 have HB:=Aside0.mk hB
 clear hB
 have H : ((soundservicemade_Dice_Next.f s0_0 5).bind fun bt437=>(soundservicelaw23_made.l0 k a1 a2 ([] : List (S54)) bt437.1 bt437.2))=some (r1,r2):=h
 clear h
 replace H:=Option.bind_eq_some_iff.mp H
 obtain ⟨⟨t437,t438⟩,A40,H⟩:=H
 replace H : (soundservicelaw23_made.l0 k a1 a2 ([] : List (S54)) t437 t438)=some (r1,r2):=H
 have A4:=Aside0.mk A40
 clear A40
 have H':=Aside0.mk H
 clear H
 go_enter Try.func12,Try.ntmps12
 go_wp2_with (first|((with_reducible refine gate_callee (f:=11) rfl ?_);refine goesL_ (some 10) rfl rfl Try.func11 zk rfl #[.pointer (some ⟨g,0,none⟩),.int .i64 5] rfl zA ?_;(with_reducible refine (soundservicemade_Dice_Next.calls g s0_0 5 t437 t438 w0 _ ?side1 ?side2 A4.out).mono ?_);(case side1=>exact zJ HI0);(case side2=>exact zI HB HI0);rintro e w5 ⟨rfl,hi,hb,hk⟩;refine ⟨_,rfl,?_⟩;replace HK:=Aside0.mk (KeepBut.trans (zK HK) hk (.inl rfl));replace HB:=Aside0.mk hb;replace HI0:=Aside0.mk hi;(try clear hb);(try clear hk);(try clear hi)))
 go_loopg [7,8] k (fun kq v7 v8 w'=>∃ (x7_1 : List (S54)) (x8_1 : Int) (x1000_1 : List Int),v8 = .int .i64 x8_1∧Aside0 (soundservicelaw23_made.l0 kq a1 a2 x7_1 x8_1 x1000_1=some (r1,r2))∧Aside0 (kq≤k)∧Aside0 (Kd.S k54 54 w' w.heap.size (fun _=>True) v7 x7_1)∧Aside0 (IsS71 w0 w' g x1000_1)∧Aside0 (KeepBut w w' g none)∧Aside0 (Below w0.heap.size w0 w'))
 case atStart=>exact ⟨(([] : List (S54))),(t437),(t438),zE,H',⟨Nat.le_refl _⟩,⟨by first|exact Kd.S_nil _ _ _ _ _|exact Kd.N_nil _ _ _ _ _|exact Kd.V_nil _ _ _ _ _|exact Kd.Q_nil _ _ _ _ _|exact Kd.R_nil _ _ _ _ _⟩,⟨zJ HI0⟩,⟨zK HK⟩,⟨zI HB HI0⟩⟩
 case round=>
  clear H'
  try clear c1
  try clear p2
  obtain ⟨x7_1,x8_1,x1000_1,rfl,HA,HK1,HO_7,HI0,HK,HB⟩:=hrel
  cases gk with
  | zero=>exact absurd HA.out (by simp [soundservicelaw23_made.l0])
  | succ k1=>
   have H:=HA.out
   clear HA
   simp only [soundservicelaw23_made.l0] at H
   by_cases c6 : x8_1>0
   rotate_left
   ·rw [if_neg c6] at H
    have c6b0 : decide (0<x8_1)=false:=decide_eq_false c6
    clear c6
    simp only [Option.some.injEq,Prod.mk.injEq] at H
    obtain ⟨rfl,rfl⟩:=H
    go_wp2
    go_ret
    exact ⟨_,zX,zT HO_7,by repeat (first|(with_reducible first|exact HI0.out|apply IsS71.alloc|apply IsS71.drewN|apply IsS71.drew|apply IsS71.set_0)|exact HI0.out),by repeat (first|(with_reducible first|exact HB.out|apply below_alloc|apply pw_below_drewN|apply below_drew1|refine below_set ?_ (IsS71.ge HI0.out))|exact HB.out),zK HK⟩
   rw [if_pos c6] at H
   have c6b0 : decide (0<x8_1)=true:=decide_eq_true c6
   clear c6
   replace H:=Option.bind_eq_some_iff.mp H
   obtain ⟨⟨t439,t440,t443,t444,t445,t448,t449,t450,t451,t452⟩,A70,H⟩:=H
   replace H : (if x7_1.length<1353245080339 then (soundservicelaw23_made.l0 k1 a1 a2 (x7_1 ++ [(⟨(⟨t439,t440⟩ : S43),(⟨t443,t444,t445⟩ : S50),(⟨t448,t449,t450,t451⟩ : S52)⟩ : S54)]) (wrap64 (x8_1 - 1)) t452) else (none))=some (r1,r2):=H
   have A7:=Aside0.mk A70
   clear A70
   by_cases c8 : x7_1.length<1353245080339
   rotate_left
   ·rw [if_neg c8] at H
    exact absurd H (by simp)
   rw [if_pos c8] at H
   have LMc8:=Aside0.mk c8
   clear c8
   obtain ⟨y453,hy453⟩ : ∃ y_ : List (S54),y_=(x7_1 ++ [(⟨(⟨t439,t440⟩ : S43),(⟨t443,t444,t445⟩ : S50),(⟨t448,t449,t450,t451⟩ : S52)⟩ : S54)]):=⟨_,rfl⟩
   replace H : (soundservicelaw23_made.l0 k1 a1 a2 y453 (wrap64 (x8_1 - 1)) t452)=some (r1,r2):=by first|(rw [hy453];with_reducible exact H)|(have H2_:=(Option.bind_some _ _).symm.trans H;rw [hy453];with_reducible exact H2_)|(have H2_:=(Option.bind_some _ _).symm.trans H;with_reducible exact H2_)|with_reducible exact H|(rw [hy453];exact H)|exact H
   have Ny453:=Aside0.mk hy453
   clear hy453
   have H':=Aside0.mk H
   clear H
   go_wp2_with (first|((with_reducible refine gate_callee (f:=25) rfl ?_);refine goesL_ (some 19) rfl rfl Try.func25 zk rfl #[.pointer (some ⟨g,0,none⟩),.int .i64 a1,.int .i64 a2] rfl zA ?_;(with_reducible refine (soundservicemade_Input.calls k1 g x1000_1 a1 a2 t439 t440 t443 t444 t445 t448 t449 t450 t451 t452 w0 _ ?side1 ?side2 A7.out).mono ?_);(case side1=>exact zJ HI0);(case side2=>exact zI HB HI0);rintro e w9 ⟨v441,v446,rfl,ho0,ho1,hi,hb,hk⟩;refine ⟨_,rfl,?_⟩;replace HO_7:=Aside0.mk (Kd.S_mono (Kd.S_told (Kd.S_told (Kd.S_oldK (IsS71.apartS (show IsS71 w0 _ g x1000_1 from zJ HI0) (zT HO_7) (by decide)) hk) (Kd.R_base ho0)) (Kd.R_base ho1)) (fun _ h_=>h_.1));have HO442:=Aside0.mk (Kd.R_lower ho0 (keep_size (w:=w) (g:=g) (row:=none) (zK HK)));have HO447:=Aside0.mk (Kd.R_lower ho1 (keep_size (w:=w) (g:=g) (row:=none) (zK HK)));replace HK:=Aside0.mk (KeepBut.trans (zK HK) hk (.inl rfl));replace HB:=Aside0.mk hb;replace HI0:=Aside0.mk hi;(try clear hb);(try clear hk);(try clear hi);(try clear ho0);(try clear ho1);obtain ⟨Ao11,co11,eo11⟩:=Kd.R_slice HO442.out;subst eo11;obtain ⟨Ao12,co12,eo12⟩:=Kd.R_slice HO447.out;subst eo12)|((with_reducible refine gate_builtin (b:=.append) (xs:=#[.tmp 15,.tmp 20]) rfl ?_);at_builtin;refine Kd.S_append k54 w.heap.size rfl (.tmp 15) (.tmp 20) 22 54 (.agg #[(.int .i64 0),(.slice none 0 0),(.int .i64 0),(.int .i64 0),(.slice none 0 0),(.int .i64 0),(.int .i64 0),(.int .i64 0),(.int .i64 0)]) 104 rfl Try.underlying22 info54 rfl (by decide) (by omega) u7 x7_1 (⟨(⟨t439,t440⟩ : S43),(⟨t443,t444,t445⟩ : S50),(⟨t448,t449,t450,t451⟩ : S52)⟩ : S54) [.int .i64 t439,.slice Ao11 t440.length co11,.int .i64 t443,.int .i64 t444,.slice Ao12 t445.length co12,.int .i64 t448,.int .i64 t449,.int .i64 t450,.int .i64 t451] (fun _=>True) (fun k_=>some k_=(.slice Ao11 t440.length co11 : Value).ownBlock∨some k_=(.slice Ao12 t445.length co12 : Value).ownBlock) rfl rfl ?aP (fun k_ hk_=>hk_.elim (fun h_=>((Kd.R_mono (ok':=fun k_=>((fun _=>True)) k_∧some k_≠(u7 : Value).ownBlock) (Kd.R_apart' (HO442.out) (Kd.S_typed HO_7.out) (by decide)) (fun k_ hk=>⟨trivial,hk.2⟩))).1 k_ h_.symm) (fun h_=>((Kd.R_mono (ok':=fun k_=>((fun _=>True)) k_∧some k_≠(u7 : Value).ownBlock) (Kd.R_apart' (HO447.out) (Kd.S_typed HO_7.out) (by decide)) (fun k_ hk=>⟨trivial,hk.2⟩))).1 k_ h_.symm)) ?aF ?aO (Below.refl _ _) ?aS ?aL ?_;(case aP=>exact k54_mkM _ _ _ (⟨(⟨t439,t440⟩ : S43),(⟨t443,t444,t445⟩ : S50),(⟨t448,t449,t450,t451⟩ : S52)⟩ : S54) (Kd.R_mono (Kd.R_tight rfl (Kd.R_mono (ok':=fun k_=>((fun _=>True)) k_∧some k_≠(u7 : Value).ownBlock) (Kd.R_apart' (HO442.out) (Kd.S_typed HO_7.out) (by decide)) (fun k_ hk=>⟨trivial,hk.2⟩))) (fun _ h_=>Or.inl h_)) (Kd.R_mono (Kd.R_tight rfl (Kd.R_mono (ok':=fun k_=>((fun _=>True)) k_∧some k_≠(u7 : Value).ownBlock) (Kd.R_apart' (HO447.out) (Kd.S_typed HO_7.out) (by decide)) (fun k_ hk=>⟨trivial,hk.2⟩))) (fun _ h_=>Or.inr (h_))));(case aF=>exact (fun _ _=>trivial));(case aO=>exact (by (with_reducible repeat (first|apply Kd.S_alloc|apply Kd.S_drewN|apply Kd.S_drew));exact Kd.S_mono HO_7.out (fun k_ hk=>⟨trivial,fun e_=>e_.elim (fun h_=>hk.1.2 h_) (fun h_=>hk.2 h_)⟩)));(case aS=>exact (keep_size (w:=w) (g:=g) (row:=none) (zK HK)));(case aL=>have:=LMc8.out;omega);intro v454 w10 ho hb hg hat;rw [← Ny453.out] at ho;replace HB:=Aside0.mk (below_weaken (zI HB HI0) HL.out hb);replace HI0:=Aside0.mk (IsS71.grown (zJ HI0) hg (IsS71.own_neS HI0.out HO_7.out (by decide)));replace HK:=Aside0.mk (KeepBut.trans (zK HK) (KeepBut.of_grown hg g) (Kd.S_base2 HO_7.out));have HO455:=Aside0.mk ho;clear HO_7;clear HO442;clear HO447;clear ho hb hg hat))
   go_roundg k1
   case measure=>have:=HK1.out;omega
   case rel=>exact ⟨(y453),(wrap64 (x8_1 - 1)),(t452),zE,H',⟨by have:=HK1.out;omega⟩,⟨zT HO455⟩,⟨zJ HI0⟩,⟨zK HK⟩,⟨zI HB HI0⟩⟩

/-! ### soundservicelaw23_limit: function 13 -/
def soundservicelaw23_limit.f (s0_0 : List Int) : Option (Int×Int×Int×List Int):=(some (([8388607,1000000,5] : List Int) : List Int)).bind fun y457=>((soundservicemade_Dice_Next.f s0_0 3).bind fun bt460=>(if 0≤bt460.1 then (if bt460.1<(y457.length : Int) then ((some (([1,300,65536] : List Int) : List Int)).bind fun y463=>((soundservicemade_Dice_Next.f bt460.2 3).bind fun bt466=>(if 0≤bt466.1 then (if bt466.1<(y463.length : Int) then ((soundserviceref08_New.f (rd y457 bt460.1) (rd y463 bt466.1)).bind fun bt469=>(some (bt469.1,bt469.2.1,bt469.2.2.1,bt466.2))) else (none)) else (none)))) else (none)) else (none)))
def soundservicelaw23_limit.T1 : Bool×List (List Nat×List Nat):=(true,[([],[]),([],[]),([1],[1]),([0,2],[0,2]),([3],[3]),([],[]),([],[]),([6,2],[6]),([5,7],[5,7]),([8],[8]),([4,9,7],[4,9]),([10],[10]),([11],[11]),([11],[11]),([],[]),([14,12,10,0,1,2,3,4,5,6,7,8,9,10,11,12,14],[12,14]),([13,15,0,1,2,3,4,5,6,7,8,9,10,11,12,13,14,15],[13])])
def soundservicelaw23_limit.B1 : List Nat:=[0,0,2,7,15,0,0,70,230,486,1023,2047,4095,4095,0,24575,65535]
theorem soundservicelaw23_limit.tab1 : rtab .any (opsOf Try.f13 1)=soundservicelaw23_limit.T1:=by kernel_rfl
theorem soundservicelaw23_limit.bits1 : waitsOk soundservicelaw23_limit.T1.2 soundservicelaw23_limit.B1=true:=by kernel_rfl
set_option maxHeartbeats 8000000 in
set_option maxRecDepth 100000 in
theorem soundservicelaw23_limit.calls (g : Nat) (s0_0 : List Int) (r1 : Int) (r2 : Int) (r3 : Int) (r4 : List Int) (w0 w : World) (hI : IsS71 w0 w g s0_0) (hB : Below w0.heap.size w0 w) (h : soundservicelaw23_limit.f s0_0=some (r1,r2,r3,r4)) :
  Calls Try.prog 13 #[.pointer (some ⟨g,0,none⟩)] w fun e w'=>e = .returned (.agg #[.int .i64 r1,.int .i64 r2,.int .i64 r3])∧IsS71 w0 w' g r4∧Below w0.heap.size w0 w'∧KeepBut w w' g none:=by
 have hu24:=Try.underlying24
 have HGT:=Aside0.mk (IsS71.lt hI)
 have HI0:=Aside0.mk hI
 have HK:=Aside0.mk (KeepBut.refl w g none)
 have HL:=Aside0.mk hB.size
 clear hI
 have HW0:=Aside0.mk hB.size
 have HB:=Aside0.mk hB
 clear hB
 have H : ((some (([8388607,1000000,5] : List Int) : List Int)).bind fun y457=>((soundservicemade_Dice_Next.f s0_0 3).bind fun bt460=>(if 0≤bt460.1 then (if bt460.1<(y457.length : Int) then ((some (([1,300,65536] : List Int) : List Int)).bind fun y463=>((soundservicemade_Dice_Next.f bt460.2 3).bind fun bt466=>(if 0≤bt466.1 then (if bt466.1<(y463.length : Int) then ((soundserviceref08_New.f (rd y457 bt460.1) (rd y463 bt466.1)).bind fun bt469=>(some (bt469.1,bt469.2.1,bt469.2.2.1,bt466.2))) else (none)) else (none)))) else (none)) else (none))))=some (r1,r2,r3,r4):=h
 clear h
 obtain ⟨y457,hy457⟩ : ∃ y_ : List Int,y_=(([8388607,1000000,5] : List Int)):=⟨_,rfl⟩
 replace H : ((soundservicemade_Dice_Next.f s0_0 3).bind fun bt460=>(if 0≤bt460.1 then (if bt460.1<(y457.length : Int) then ((some (([1,300,65536] : List Int) : List Int)).bind fun y463=>((soundservicemade_Dice_Next.f bt460.2 3).bind fun bt466=>(if 0≤bt466.1 then (if bt466.1<(y463.length : Int) then ((soundserviceref08_New.f (rd y457 bt460.1) (rd y463 bt466.1)).bind fun bt469=>(some (bt469.1,bt469.2.1,bt469.2.2.1,bt466.2))) else (none)) else (none)))) else (none)) else (none)))=some (r1,r2,r3,r4):=by first|(rw [hy457];with_reducible exact H)|(have H2_:=(Option.bind_some _ _).symm.trans H;rw [hy457];with_reducible exact H2_)|(have H2_:=(Option.bind_some _ _).symm.trans H;with_reducible exact H2_)|with_reducible exact H|(rw [hy457];exact H)|exact H
 have Ny457:=Aside0.mk hy457
 clear hy457
 replace H:=Option.bind_eq_some_iff.mp H
 obtain ⟨⟨t460,t461⟩,A20,H⟩:=H
 replace H : (if 0≤t460 then (if t460<(y457.length : Int) then ((some (([1,300,65536] : List Int) : List Int)).bind fun y463=>((soundservicemade_Dice_Next.f t461 3).bind fun bt466=>(if 0≤bt466.1 then (if bt466.1<(y463.length : Int) then ((soundserviceref08_New.f (rd y457 t460) (rd y463 bt466.1)).bind fun bt469=>(some (bt469.1,bt469.2.1,bt469.2.2.1,bt466.2))) else (none)) else (none)))) else (none)) else (none))=some (r1,r2,r3,r4):=H
 have A2:=Aside0.mk A20
 clear A20
 by_cases c3 : 0≤t460
 rotate_left
 ·rw [if_neg c3] at H
  exact absurd H (by simp)
 rw [if_pos c3] at H
 have c3b0 : decide (0≤t460)=true:=decide_eq_true c3
 clear c3
 by_cases c4 : t460<(y457.length : Int)
 rotate_left
 ·rw [if_neg c4] at H
  exact absurd H (by simp)
 rw [if_pos c4] at H
 have c4b0 : decide (t460<(y457.length : Int))=true:=decide_eq_true c4
 clear c4
 obtain ⟨y463,hy463⟩ : ∃ y_ : List Int,y_=(([1,300,65536] : List Int)):=⟨_,rfl⟩
 replace H : ((soundservicemade_Dice_Next.f t461 3).bind fun bt466=>(if 0≤bt466.1 then (if bt466.1<(y463.length : Int) then ((soundserviceref08_New.f (rd y457 t460) (rd y463 bt466.1)).bind fun bt469=>(some (bt469.1,bt469.2.1,bt469.2.2.1,bt466.2))) else (none)) else (none)))=some (r1,r2,r3,r4):=by first|(rw [hy463];with_reducible exact H)|(have H2_:=(Option.bind_some _ _).symm.trans H;rw [hy463];with_reducible exact H2_)|(have H2_:=(Option.bind_some _ _).symm.trans H;with_reducible exact H2_)|with_reducible exact H|(rw [hy463];exact H)|exact H
 have Ny463:=Aside0.mk hy463
 clear hy463
 replace H:=Option.bind_eq_some_iff.mp H
 obtain ⟨⟨t466,t467⟩,A50,H⟩:=H
 replace H : (if 0≤t466 then (if t466<(y463.length : Int) then ((soundserviceref08_New.f (rd y457 t460) (rd y463 t466)).bind fun bt469=>(some (bt469.1,bt469.2.1,bt469.2.2.1,t467))) else (none)) else (none))=some (r1,r2,r3,r4):=H
 have A5:=Aside0.mk A50
 clear A50
 by_cases c6 : 0≤t466
 rotate_left
 ·rw [if_neg c6] at H
  exact absurd H (by simp)
 rw [if_pos c6] at H
 have c6b0 : decide (0≤t466)=true:=decide_eq_true c6
 clear c6
 by_cases c7 : t466<(y463.length : Int)
 rotate_left
 ·rw [if_neg c7] at H
  exact absurd H (by simp)
 rw [if_pos c7] at H
 have c7b0 : decide (t466<(y463.length : Int))=true:=decide_eq_true c7
 clear c7
 replace H:=Option.bind_eq_some_iff.mp H
 obtain ⟨⟨t469,t470,t471,t472⟩,A80,H⟩:=H
 replace H : (some (t469,t470,t471,t467))=some (r1,r2,r3,r4):=H
 have A8:=Aside0.mk A80
 clear A80
 simp only [Option.some.injEq,Prod.mk.injEq] at H
 obtain ⟨rfl,rfl,rfl,rfl⟩:=H
 go_enter Try.func13,Try.ntmps13
 try go_wp2_with (first|((with_reducible refine gate_dst (N:=2) rfl ?_);refine box_event ?hg (N:=2) ?hd (cs:=#[.int .i64 0,.int .i64 0,.int .i64 0]) (t:=24) ?hr ?_;(case hd=>rfl);(case hg=>rfl);(case hr=>first|(go_simp;done)|(go_simp;rfl));intro gb456 hg w9 hbox hb;replace HB:=Aside0.mk (below_step (zI HB HI0) hb);replace HI0:=Aside0.mk (IsS71.below (zJ HI0) hb);have BK456:=Aside0.mk hbox;have GW456:=Aside0.mk ((by rw [hg];exact (keep_size (w:=w) (g:=g) (row:=none) (zK HK)) : w.heap.size≤gb456));have GE456:=Aside0.mk ((Nat.le_trans HW0.out (by rw [hg];exact (keep_size (w:=w) (g:=g) (row:=none) (zK HK)) : w.heap.size≤gb456) : w0.heap.size≤gb456));have NB0_456:=Aside0.mk ((by rw [hg];exact Nat.ne_of_lt (Nat.lt_of_lt_of_le HGT.out (show KeepBut w _ g none from zK HK).1) : g≠gb456));have NB456_0:=Aside0.mk ((by rw [hg];exact Nat.ne_of_gt (Nat.lt_of_lt_of_le HGT.out (show KeepBut w _ g none from zK HK).1) : gb456≠g));replace HK:=Aside0.mk (KeepBut.trans (zK HK) (KeepBut.of_below hb g none) (.inl rfl));clear hb hbox hg))
 have pi462 : (0≤(t460 : Int))=True:=eq_true (zD)
 have qi462 : (t460<(y457.length : Int))=True:=eq_true (zD)
 have pi468 : (0≤(t466 : Int))=True:=eq_true (zD)
 have qi468 : (t466<(y463.length : Int))=True:=eq_true (zD)
 have n0_:=Aside0.mk (blk_drew BK456.out)
 have n1_:=Aside0.mk (IsS71.drew HI0.out)
 have n2_:=Aside0.mk (keep_drew HK.out)
 have n3_:=Aside0.mk (below_drew1 HB.out)
 clear BK456
 clear HI0
 clear HK
 clear HB
 have BK456:=n0_
 have HI0:=n1_
 have HK:=n2_
 have HB:=n3_
 clear n0_ n1_ n2_ n3_
 refine start_ (n:=17) (S:=fun w'=>True) (ds:=[]) #[false,false,false,false,false,false,false,false,false,false,false,false,false,false,false,false,false] zk rfl rfl trivial (fun hHeld=>?_);refine with_tabW soundservicelaw23_limit.tab1 soundservicelaw23_limit.bits1 (fun HT_ HW_=>?_)
 generalize w9.drew=w10 at BK456 HI0 HK HB hHeld ⊢
 refine pure_ (i:=1) (N:=some 7) (v:=?_) (a':=?_) #[false,true,false,false,false,false,false,false,false,false,false,false,false,false,false,false,false] rfl rfl (any_of HT_.out zk) (fun _ _ _ h=>h) (Or.inl ⟨by rfl,?_⟩) ?_ ?_
 rotate_left
 ·intro w'
  go_simp
  with_reducible rfl
 rotate_left
 ·simp only [Act.put,List.setIfInBounds_toArray,List.set_cons_zero,List.set_cons_succ,i64_w,i32_w]
  rfl
 refine pure_ (i:=6) (N:=some 12) (v:=?_) (a':=?_) #[false,true,false,false,false,false,true,false,false,false,false,false,false,false,false,false,false] rfl rfl (any_of HT_.out zk) (fun _ _ _ h=>h) (Or.inl ⟨by rfl,?_⟩) ?_ ?_
 rotate_left
 ·intro w'
  go_simp
  with_reducible rfl
 rotate_left
 ·simp only [Act.put,List.setIfInBounds_toArray,List.set_cons_zero,List.set_cons_succ,i64_w,i32_w]
  rfl
 refine inv_at [0,2,3,4,5,7,8,9,10,11,12,13,14,15,16] (fun a0_ b a w'=>∃ (v458 : Value) (adz_v458 : Addr) (v464 : Value) (adz_v464 : Addr) (gb473 : Nat) (m3_ : Value) (m8_ : Value) (m14_ : Value),a=putSel a0_ b [(0,6,v458),(2,8,.int .i64 t460),(3,9,m3_),(4,10,.int .i64 (rd y457 t460)),(5,11,v464),(7,13,.int .i64 t466),(8,14,m8_),(9,15,.int .i64 (rd y463 t466)),(10,16,.tuple #[.agg #[.int .i64 t469,.int .i64 t470,.int .i64 t471],.int .i64 t472]),(11,5,.tuple #[.agg #[.int .i64 t469,.int .i64 t470,.int .i64 t471],.int .i64 t472]),(12,17,.agg #[.int .i64 t469,.int .i64 t470,.int .i64 t471]),(13,18,.int .i64 t472),(14,3,m14_),(16,4,.int .i64 t472)]∧(w'.heap[gb456]?=some (.cells #[.int .i64 0,.int .i64 0,.int .i64 0] 24 (0,0)))∧(b 2=false→IsS71 w0 w' g s0_0)∧(KeepBut w w' g none)∧(Below w0.heap.size w0 w')∧(b 0=true→Kd.R (Kd.int .i64) 3 w' w.heap.size (fun _=>True) v458 y457)∧(b 0=true→∃ c_,(v458 : Value) = .slice (some adz_v458) y457.length c_)∧(b 2=true→b 7=false→IsS71 w0 w' g t461)∧(b 5=true→Kd.R (Kd.int .i64) 3 w' w.heap.size (fun _=>True) v464 y463)∧(b 5=true→∃ c_,(v464 : Value) = .slice (some adz_v464) y463.length c_)∧(b 7=true→IsS71 w0 w' g t467)∧(b 14=true→b 15=false→w'.heap[gb473]?=some (.cells #[.int .i64 0,.int .i64 0,.int .i64 0] 24 (0,0)))∧(b 14=true→w.heap.size≤gb473)∧(b 14=true→w0.heap.size≤gb473)∧(b 14=true→g≠gb473)∧(b 14=true→gb473≠g)∧(b 14=true→gb456≠gb473)∧(b 14=true→gb473≠gb456)∧(b 15=true→w'.heap[gb473]?=some (.cells #[.int .i64 t469,.int .i64 t470,.int .i64 t471] 24 (0,0)))∧(b 3=true→(m3_ : Value) = .pointer (some (adz_v458.add (t460).toNat)))∧(b 8=true→(m8_ : Value) = .pointer (some (adz_v464.add (t466).toNat)))∧(b 14=true→(m14_ : Value) = .pointer (some ⟨gb473,0,none⟩))) HT_.out HW_.out zk zk ?_ ?_ ?_
 ·exact ⟨.bool false,⟨0,0,none⟩,.bool false,⟨0,0,none⟩,0,.bool false,.bool false,.bool false,by simp only [putSel,Bool.false_eq_true,if_false],BK456.out,fun _=>HI0.out,HK.out,HB.out,fun h_=>absurd h_ (by decide),fun h_=>absurd h_ (by decide),fun h_=>absurd h_ (by decide),fun h_=>absurd h_ (by decide),fun h_=>absurd h_ (by decide),fun h_=>absurd h_ (by decide),fun h_=>absurd h_ (by decide),fun h_=>absurd h_ (by decide),fun h_=>absurd h_ (by decide),fun h_=>absurd h_ (by decide),fun h_=>absurd h_ (by decide),fun h_=>absurd h_ (by decide),fun h_=>absurd h_ (by decide),fun h_=>absurd h_ (by decide),fun h_=>absurd h_ (by decide),fun h_=>absurd h_ (by decide),fun h_=>absurd h_ (by decide)⟩
 ·skip
  clear BK456 HB HI0 HK
  refine steps_cons ?_ ?_
  ·rintro b a w' ⟨v458,adz_v458,v464,adz_v464,gb473,m3_,m8_,m14_,ha,Q_BK456,Q_HI0,Q_HK,Q_HB,Q_HO459,Q_HA_HO459,Q_HI0_e2,Q_HO465,Q_HA_HO465,Q_HI0_e7,Q_BK473,Q_GW473,Q_GE473,Q_NB0_473,Q_NB473_0,Q_NB456_473,Q_NB473_456,Q_BK473_e15,Q_X3_,Q_X8_,Q_X14_⟩ hb_ hon hoff
   refine ⟨_,rfl,fun K hK=>?_⟩
   replace ha:=Aside0.mk ha
   have BK456:=Aside0.mk Q_BK456
   have HK:=Aside0.mk Q_HK
   have HB:=Aside0.mk Q_HB
   refine Kd.R_lit_step (Kd.int .i64) _ 3 ?hg (N:=6) ?hd (xs:=([8388607,1000000,5] : List Int)) (inner:=[.int .i64 8388607,.int .i64 1000000,.int .i64 5]) (ok:=fun _=>True) (okp:=fun _=>True) ?hr ?hp (fun _ hk=>hk) trivial (Below.refl _ _) (Nat.le_refl _) (by simp) ?_;(case hd=>rfl);(case hg=>rfl);(case hr=>first|(go_simp;done)|(go_simp;rfl));(case hp=>exact (Reps.one (show Kd.M (Kd.int .i64) _ _ _ 8388607 [.int .i64 8388607] from rfl) (Reps.one (show Kd.M (Kd.int .i64) _ _ _ 1000000 [.int .i64 1000000] from rfl) (Reps.one (show Kd.M (Kd.int .i64) _ _ _ 5 [.int .i64 5] from rfl) (Reps.none _ _)))))
   intro v458 w11 ho12 hb hg_ hnew_
   clear hg_ hnew_
   (first|rw [← Ny457.out] at ho12|(simp only [Int.reduceToNat] at ho12;rw [← Ny457.out] at ho12))
   have n0_:=Aside0.mk (Kd.R_lower ho12 (keep_size (w:=w) (g:=g) (row:=none) (zK HK)))
   have n2_:=Aside0.mk (blk_below (zB BK456) hb)
   have n3_:=Aside0.mk (KeepBut.trans (zK HK) (KeepBut.of_below hb g none) (.inl rfl))
   have n4_:=Aside0.mk (below_step (zW HB) hb)
   have z_HI0:=fun (h0_ : b 2=false)=>(show IsS71 w0 w11 g s0_0 from by first|exact (IsS71.below (by repeat (first|(with_reducible first|exact (Q_HI0 h0_)|apply IsS71.alloc|apply IsS71.drewN|apply IsS71.drew|apply IsS71.set_0|refine IsS71.far ?_ NB0_456.out _)|exact (Q_HI0 h0_))) hb))
   have z_HI0_e2:=fun (h0_ : b 2=true) (h1_ : b 7=false)=>(show IsS71 w0 w11 g t461 from by first|exact (IsS71.below (by repeat (first|(with_reducible first|exact (Q_HI0_e2 h0_ h1_)|apply IsS71.alloc|apply IsS71.drewN|apply IsS71.drew|apply IsS71.set_0|refine IsS71.far ?_ NB0_456.out _)|exact (Q_HI0_e2 h0_ h1_))) hb))
   have z_HO465:=fun (h0_ : b 5=true)=>(show Kd.R (Kd.int .i64) 3 w11 w.heap.size (fun _=>True) v464 y463 from by first|exact (Kd.R_elder' (zR ⟨Q_HO465 h0_⟩) (Kd.R_base ho12) hb)|exact Kd.R_mono (Kd.R_elder' (zR ⟨Q_HO465 h0_⟩) (Kd.R_base ho12) hb) (fun _ h_=>by first|trivial|exact h_|exact h_.1))
   have z_HI0_e7:=fun (h0_ : b 7=true)=>(show IsS71 w0 w11 g t467 from by first|exact (IsS71.below (by repeat (first|(with_reducible first|exact (Q_HI0_e7 h0_)|apply IsS71.alloc|apply IsS71.drewN|apply IsS71.drew|apply IsS71.set_0|refine IsS71.far ?_ NB0_456.out _)|exact (Q_HI0_e7 h0_))) hb))
   have z_BK473:=fun (h0_ : b 14=true) (h1_ : b 15=false)=>(show w11.heap[gb473]?=some (.cells #[.int .i64 0,.int .i64 0,.int .i64 0] 24 (0,0)) from by first|exact (blk_below (zB ⟨Q_BK473 h0_ h1_⟩) hb))
   clear BK456
   clear HK
   clear HB
   have HO459:=n0_
   have BK456:=n2_
   have HK:=n3_
   have HB:=n4_
   clear n0_ n2_ n3_ n4_
   clear hb ho12
   obtain ⟨Ao13,co13,eo13⟩:=Kd.R_slice HO459.out
   subst eo13
   obtain ⟨ado13,fo13,_⟩:=Kd.at_int (Kd.R_reads' HO459.out).2.2 0 (by decide) (by rw [Ny457.out];simp)
   cases fo13
   refine hK.out _ _ ⟨.slice (some ado13) y457.length co13,ado13,v464,adz_v464,gb473,m3_,m8_,m14_,(by rw [ha.out];exact putSel_upk 0 hb_ rfl rfl rfl),(zB BK456),z_HI0,(zK HK),(zW HB),fun _=>(zR HO459),fun _=>⟨_,rfl⟩,z_HI0_e2,z_HO465,Q_HA_HO465,z_HI0_e7,z_BK473,Q_GW473,Q_GE473,Q_NB0_473,Q_NB473_0,Q_NB456_473,Q_NB473_456,fun h0_=>absurd ((hoff 15 zk).symm.trans h0_) (by decide),fun h0_=>absurd ((hoff 3 zk).symm.trans h0_) (by decide),Q_X8_,Q_X14_⟩
  refine steps_cons ?_ ?_
  ·rintro b a w' ⟨v458,adz_v458,v464,adz_v464,gb473,m3_,m8_,m14_,ha,Q_BK456,Q_HI0,Q_HK,Q_HB,Q_HO459,Q_HA_HO459,Q_HI0_e2,Q_HO465,Q_HA_HO465,Q_HI0_e7,Q_BK473,Q_GW473,Q_GE473,Q_NB0_473,Q_NB473_0,Q_NB456_473,Q_NB473_456,Q_BK473_e15,Q_X3_,Q_X8_,Q_X14_⟩ hb_ hon hoff
   refine ⟨_,rfl,fun K hK=>?_⟩
   have e7 : a.tmps[7]?=some (.pointer (some ⟨g,0,none⟩)):=by rw [ha];exact (putSel_off rfl).trans rfl
   replace ha:=Aside0.mk ha
   have BK456:=Aside0.mk Q_BK456
   have HI0:=Aside0.mk (Q_HI0 hb_)
   have HK:=Aside0.mk Q_HK
   have HB:=Aside0.mk Q_HB
   refine goes_ Try.func11 zk rfl #[.pointer (some ⟨g,0,none⟩),.int .i64 3] (by rfl) rfl rfl (by first|(simp only [List.map_toArray,List.map_cons,List.map_nil,Act.eval,Array.getD_eq_getD_getElem?,Option.getD_some,e7];done)|(simp only [List.map_toArray,List.map_cons,List.map_nil,Act.eval,Array.getD_eq_getD_getElem?,Option.getD_some,e7];rfl)) ?_
   with_reducible refine (soundservicemade_Dice_Next.calls g s0_0 3 t460 t461 w0 _ ?side1 ?side2 A2.out).mono ?_
   (case side1=>exact zJ HI0)
   (case side2=>exact zI HB HI0)
   rintro e w11 ⟨rfl,hi,hb,hk⟩
   refine ⟨_,rfl,?_⟩
   have n0_:=Aside0.mk (KeepBut.blk hk (g':=gb456) (o:=.cells #[.int .i64 0,.int .i64 0,.int .i64 0] 24 (0,0)) (zB BK456) NB456_0.out (by simp))
   have n1_:=Aside0.mk (KeepBut.trans (zK HK) hk (.inl rfl))
   have n2_:=Aside0.mk hb
   have n3_:=Aside0.mk hi
   have z_HO459:=fun (h0_ : b 0=true)=>(show Kd.R (Kd.int .i64) 3 w11 w.heap.size (fun _=>True) v458 y457 from by first|exact (Kd.R_mono (Kd.R_keep (IsS71.apart (show IsS71 w0 _ g s0_0 from zJ HI0) (zR ⟨Q_HO459 h0_⟩) (by decide)) hk (fun _ h=>h.2)) (fun _ h=>h.1))|exact Kd.R_mono (Kd.R_mono (Kd.R_keep (IsS71.apart (show IsS71 w0 _ g s0_0 from zJ HI0) (zR ⟨Q_HO459 h0_⟩) (by decide)) hk (fun _ h=>h.2)) (fun _ h=>h.1)) (fun _ h_=>by first|trivial|exact h_|exact h_.1))
   have z_HO465:=fun (h0_ : b 5=true)=>(show Kd.R (Kd.int .i64) 3 w11 w.heap.size (fun _=>True) v464 y463 from by first|exact (Kd.R_mono (Kd.R_keep (IsS71.apart (show IsS71 w0 _ g s0_0 from zJ HI0) (zR ⟨Q_HO465 h0_⟩) (by decide)) hk (fun _ h=>h.2)) (fun _ h=>h.1))|exact Kd.R_mono (Kd.R_mono (Kd.R_keep (IsS71.apart (show IsS71 w0 _ g s0_0 from zJ HI0) (zR ⟨Q_HO465 h0_⟩) (by decide)) hk (fun _ h=>h.2)) (fun _ h=>h.1)) (fun _ h_=>by first|trivial|exact h_|exact h_.1))
   have z_BK473:=fun (h0_ : b 14=true) (h1_ : b 15=false)=>(show w11.heap[gb473]?=some (.cells #[.int .i64 0,.int .i64 0,.int .i64 0] 24 (0,0)) from by first|exact (KeepBut.blk hk (g':=gb473) (o:=.cells #[.int .i64 0,.int .i64 0,.int .i64 0] 24 (0,0)) (zB ⟨Q_BK473 h0_ h1_⟩) (Q_NB473_0 h0_) (by simp)))
   clear BK456
   clear HK
   clear HB
   clear HI0
   have BK456:=n0_
   have HK:=n1_
   have HB:=n2_
   have HI0:=n3_
   clear n0_ n1_ n2_ n3_
   (try clear hb)
   (try clear hb2)
   (try clear hk)
   (try clear hi)
   (try clear hgw)
   refine hK.out _ _ ⟨v458,adz_v458,v464,adz_v464,gb473,m3_,m8_,m14_,(by rw [ha.out];exact putSel_upk 1 hb_ rfl rfl rfl),(zB BK456),fun h0_=>absurd ((up_self b 2).symm.trans h0_) (by decide),(zK HK),(zI HB HI0),z_HO459,Q_HA_HO459,fun _ _=>(zJ HI0),z_HO465,Q_HA_HO465,fun h0_=>absurd ((hoff 7 zk).symm.trans h0_) (by decide),z_BK473,Q_GW473,Q_GE473,Q_NB0_473,Q_NB473_0,Q_NB456_473,Q_NB473_456,fun h0_=>absurd ((hoff 15 zk).symm.trans h0_) (by decide),fun h0_=>absurd ((hoff 3 zk).symm.trans h0_) (by decide),fun h0_=>absurd ((hoff 8 zk).symm.trans h0_) (by decide),Q_X14_⟩
  refine steps_cons ?_ ?_
  ·rintro b a w' ⟨v458,adz_v458,v464,adz_v464,gb473,m3_,m8_,m14_,ha,Q_BK456,Q_HI0,Q_HK,Q_HB,Q_HO459,Q_HA_HO459,Q_HI0_e2,Q_HO465,Q_HA_HO465,Q_HI0_e7,Q_BK473,Q_GW473,Q_GE473,Q_NB0_473,Q_NB473_0,Q_NB456_473,Q_NB473_456,Q_BK473_e15,Q_X3_,Q_X8_,Q_X14_⟩ hb_ hon hoff
   refine ⟨_,rfl,fun K hK=>?_⟩
   have e6 : a.tmps[6]?=some (v458):=by rw [ha];exact putSel_on (e:=(0,6,v458)) 0 rfl rfl (hon 0 zk) rfl
   have e8 : a.tmps[8]?=some (.int .i64 t460):=by rw [ha];exact putSel_on (e:=(2,8,.int .i64 t460)) 1 rfl rfl (hon 2 zk) rfl
   replace ha:=Aside0.mk ha
   have BK456:=Aside0.mk Q_BK456
   have HK:=Aside0.mk Q_HK
   have HB:=Aside0.mk Q_HB
   have HO459:=Aside0.mk (Q_HO459 (hon 0 zk))
   have HA_HO459:=Aside0.mk (Q_HA_HO459 (hon 0 zk))
   obtain ⟨c_,hv_⟩:=HA_HO459.out
   rw [hv_] at e6
   refine value_ (w1:=w') (v:=.pointer (some (adz_v458.add (t460).toNat))) (by rfl) rfl ?_ ?_
   ·go_simp
    (try simp only [i64_w])
    try rfl
   refine hK.out _ _ ⟨v458,adz_v458,v464,adz_v464,gb473,(.pointer (some (adz_v458.add (t460).toNat))),m8_,m14_,(by rw [ha.out];exact putSel_upk 2 hb_ rfl rfl rfl),Q_BK456,fun h0_=>absurd ((hon 2 zk).symm.trans h0_) (by decide),Q_HK,Q_HB,Q_HO459,Q_HA_HO459,Q_HI0_e2,Q_HO465,Q_HA_HO465,Q_HI0_e7,Q_BK473,Q_GW473,Q_GE473,Q_NB0_473,Q_NB473_0,Q_NB456_473,Q_NB473_456,fun h0_=>absurd ((hoff 15 zk).symm.trans h0_) (by decide),fun _=>rfl,Q_X8_,Q_X14_⟩
  refine steps_cons ?_ ?_
  ·rintro b a w' ⟨v458,adz_v458,v464,adz_v464,gb473,m3_,m8_,m14_,ha,Q_BK456,Q_HI0,Q_HK,Q_HB,Q_HO459,Q_HA_HO459,Q_HI0_e2,Q_HO465,Q_HA_HO465,Q_HI0_e7,Q_BK473,Q_GW473,Q_GE473,Q_NB0_473,Q_NB473_0,Q_NB456_473,Q_NB473_456,Q_BK473_e15,Q_X3_,Q_X8_,Q_X14_⟩ hb_ hon hoff
   refine ⟨_,rfl,fun K hK=>?_⟩
   have e9 : a.tmps[9]?=some (m3_):=by rw [ha];exact putSel_on (e:=(3,9,m3_)) 2 rfl rfl (hon 3 zk) rfl
   rw [Q_X3_ (hon 3 zk)] at e9
   replace ha:=Aside0.mk ha
   have BK456:=Aside0.mk Q_BK456
   have HK:=Aside0.mk Q_HK
   have HB:=Aside0.mk Q_HB
   have HO459:=Aside0.mk (Q_HO459 (hon 0 zk))
   have HA_HO459:=Aside0.mk (Q_HA_HO459 (hon 0 zk))
   obtain ⟨c_,hv_⟩:=HA_HO459.out
   have hF_:=HO459.out
   rw [hv_] at hF_
   obtain ⟨ad_,ea_,hx_⟩:=Kd.at_int (Kd.R_reads' hF_).2.2 t460 (of_eq_true pi462) (of_eq_true qi462)
   cases ea_
   refine value_ (w1:=w') (v:=.int .i64 (rd y457 t460)) (by rfl) rfl ?_ ?_
   ·go_simp
    (try simp only [i64_w])
    try rfl
   refine hK.out _ _ ⟨v458,adz_v458,v464,adz_v464,gb473,m3_,m8_,m14_,(by rw [ha.out];exact putSel_upk 3 hb_ rfl rfl rfl),Q_BK456,fun h0_=>absurd ((hon 2 zk).symm.trans h0_) (by decide),Q_HK,Q_HB,Q_HO459,Q_HA_HO459,Q_HI0_e2,Q_HO465,Q_HA_HO465,Q_HI0_e7,Q_BK473,Q_GW473,Q_GE473,Q_NB0_473,Q_NB473_0,Q_NB456_473,Q_NB473_456,fun h0_=>absurd ((hoff 15 zk).symm.trans h0_) (by decide),Q_X3_,Q_X8_,Q_X14_⟩
  refine steps_cons ?_ ?_
  ·rintro b a w' ⟨v458,adz_v458,v464,adz_v464,gb473,m3_,m8_,m14_,ha,Q_BK456,Q_HI0,Q_HK,Q_HB,Q_HO459,Q_HA_HO459,Q_HI0_e2,Q_HO465,Q_HA_HO465,Q_HI0_e7,Q_BK473,Q_GW473,Q_GE473,Q_NB0_473,Q_NB473_0,Q_NB456_473,Q_NB473_456,Q_BK473_e15,Q_X3_,Q_X8_,Q_X14_⟩ hb_ hon hoff
   refine ⟨_,rfl,fun K hK=>?_⟩
   replace ha:=Aside0.mk ha
   have BK456:=Aside0.mk Q_BK456
   have HK:=Aside0.mk Q_HK
   have HB:=Aside0.mk Q_HB
   refine Kd.R_lit_step (Kd.int .i64) _ 3 ?hg (N:=11) ?hd (xs:=([1,300,65536] : List Int)) (inner:=[.int .i64 1,.int .i64 300,.int .i64 65536]) (ok:=fun _=>True) (okp:=fun _=>True) ?hr ?hp (fun _ hk=>hk) trivial (Below.refl _ _) (Nat.le_refl _) (by simp) ?_;(case hd=>rfl);(case hg=>rfl);(case hr=>first|(go_simp;done)|(go_simp;rfl));(case hp=>exact (Reps.one (show Kd.M (Kd.int .i64) _ _ _ 1 [.int .i64 1] from rfl) (Reps.one (show Kd.M (Kd.int .i64) _ _ _ 300 [.int .i64 300] from rfl) (Reps.one (show Kd.M (Kd.int .i64) _ _ _ 65536 [.int .i64 65536] from rfl) (Reps.none _ _)))))
   intro v464 w11 ho12 hb hg_ hnew_
   clear hg_ hnew_
   (first|rw [← Ny463.out] at ho12|(simp only [Int.reduceToNat] at ho12;rw [← Ny463.out] at ho12))
   have n0_:=Aside0.mk (Kd.R_lower ho12 (keep_size (w:=w) (g:=g) (row:=none) (zK HK)))
   have n2_:=Aside0.mk (blk_below (zB BK456) hb)
   have n3_:=Aside0.mk (KeepBut.trans (zK HK) (KeepBut.of_below hb g none) (.inl rfl))
   have n4_:=Aside0.mk (below_step (zW HB) hb)
   have z_HI0:=fun (h0_ : b 2=false)=>(show IsS71 w0 w11 g s0_0 from by first|exact (IsS71.below (by repeat (first|(with_reducible first|exact (Q_HI0 h0_)|apply IsS71.alloc|apply IsS71.drewN|apply IsS71.drew|apply IsS71.set_0|refine IsS71.far ?_ NB0_456.out _)|exact (Q_HI0 h0_))) hb))
   have z_HO459:=fun (h0_ : b 0=true)=>(show Kd.R (Kd.int .i64) 3 w11 w.heap.size (fun _=>True) v458 y457 from by first|exact (Kd.R_elder' (zR ⟨Q_HO459 h0_⟩) (Kd.R_base ho12) hb)|exact Kd.R_mono (Kd.R_elder' (zR ⟨Q_HO459 h0_⟩) (Kd.R_base ho12) hb) (fun _ h_=>by first|trivial|exact h_|exact h_.1))
   have z_HI0_e2:=fun (h0_ : b 2=true) (h1_ : b 7=false)=>(show IsS71 w0 w11 g t461 from by first|exact (IsS71.below (by repeat (first|(with_reducible first|exact (Q_HI0_e2 h0_ h1_)|apply IsS71.alloc|apply IsS71.drewN|apply IsS71.drew|apply IsS71.set_0|refine IsS71.far ?_ NB0_456.out _)|exact (Q_HI0_e2 h0_ h1_))) hb))
   have z_HI0_e7:=fun (h0_ : b 7=true)=>(show IsS71 w0 w11 g t467 from by first|exact (IsS71.below (by repeat (first|(with_reducible first|exact (Q_HI0_e7 h0_)|apply IsS71.alloc|apply IsS71.drewN|apply IsS71.drew|apply IsS71.set_0|refine IsS71.far ?_ NB0_456.out _)|exact (Q_HI0_e7 h0_))) hb))
   have z_BK473:=fun (h0_ : b 14=true) (h1_ : b 15=false)=>(show w11.heap[gb473]?=some (.cells #[.int .i64 0,.int .i64 0,.int .i64 0] 24 (0,0)) from by first|exact (blk_below (zB ⟨Q_BK473 h0_ h1_⟩) hb))
   clear BK456
   clear HK
   clear HB
   have HO465:=n0_
   have BK456:=n2_
   have HK:=n3_
   have HB:=n4_
   clear n0_ n2_ n3_ n4_
   clear hb ho12
   obtain ⟨Ao13,co13,eo13⟩:=Kd.R_slice HO465.out
   subst eo13
   obtain ⟨ado13,fo13,_⟩:=Kd.at_int (Kd.R_reads' HO465.out).2.2 0 (by decide) (by rw [Ny463.out];simp)
   cases fo13
   refine hK.out _ _ ⟨v458,adz_v458,.slice (some ado13) y463.length co13,ado13,gb473,m3_,m8_,m14_,(by rw [ha.out];exact putSel_upk 4 hb_ rfl rfl rfl),(zB BK456),z_HI0,(zK HK),(zW HB),z_HO459,Q_HA_HO459,z_HI0_e2,fun _=>(zR HO465),fun _=>⟨_,rfl⟩,z_HI0_e7,z_BK473,Q_GW473,Q_GE473,Q_NB0_473,Q_NB473_0,Q_NB456_473,Q_NB473_456,fun h0_=>absurd ((hoff 15 zk).symm.trans h0_) (by decide),Q_X3_,fun h0_=>absurd ((hoff 8 zk).symm.trans h0_) (by decide),Q_X14_⟩
  refine steps_cons ?_ ?_
  ·rintro b a w' ⟨v458,adz_v458,v464,adz_v464,gb473,m3_,m8_,m14_,ha,Q_BK456,Q_HI0,Q_HK,Q_HB,Q_HO459,Q_HA_HO459,Q_HI0_e2,Q_HO465,Q_HA_HO465,Q_HI0_e7,Q_BK473,Q_GW473,Q_GE473,Q_NB0_473,Q_NB473_0,Q_NB456_473,Q_NB473_456,Q_BK473_e15,Q_X3_,Q_X8_,Q_X14_⟩ hb_ hon hoff
   refine ⟨_,rfl,fun K hK=>?_⟩
   have e12 : a.tmps[12]?=some (.pointer (some ⟨g,0,none⟩)):=by rw [ha];exact (putSel_off rfl).trans rfl
   replace ha:=Aside0.mk ha
   have BK456:=Aside0.mk Q_BK456
   have HK:=Aside0.mk Q_HK
   have HB:=Aside0.mk Q_HB
   have HI0:=Aside0.mk (Q_HI0_e2 (hon 2 zk) hb_)
   refine goes_ Try.func11 zk rfl #[.pointer (some ⟨g,0,none⟩),.int .i64 3] (by rfl) rfl rfl (by first|(simp only [List.map_toArray,List.map_cons,List.map_nil,Act.eval,Array.getD_eq_getD_getElem?,Option.getD_some,e12];done)|(simp only [List.map_toArray,List.map_cons,List.map_nil,Act.eval,Array.getD_eq_getD_getElem?,Option.getD_some,e12];rfl)) ?_
   with_reducible refine (soundservicemade_Dice_Next.calls g t461 3 t466 t467 w0 _ ?side1 ?side2 A5.out).mono ?_
   (case side1=>exact zJ HI0)
   (case side2=>exact zI HB HI0)
   rintro e w13 ⟨rfl,hi,hb,hk⟩
   refine ⟨_,rfl,?_⟩
   have n0_:=Aside0.mk (KeepBut.blk hk (g':=gb456) (o:=.cells #[.int .i64 0,.int .i64 0,.int .i64 0] 24 (0,0)) (zB BK456) NB456_0.out (by simp))
   have n1_:=Aside0.mk (KeepBut.trans (zK HK) hk (.inl rfl))
   have n2_:=Aside0.mk hb
   have n3_:=Aside0.mk hi
   have z_HO459:=fun (h0_ : b 0=true)=>(show Kd.R (Kd.int .i64) 3 w13 w.heap.size (fun _=>True) v458 y457 from by first|exact (Kd.R_mono (Kd.R_keep (IsS71.apart (show IsS71 w0 _ g t461 from zJ HI0) (zR ⟨Q_HO459 h0_⟩) (by decide)) hk (fun _ h=>h.2)) (fun _ h=>h.1))|exact Kd.R_mono (Kd.R_mono (Kd.R_keep (IsS71.apart (show IsS71 w0 _ g t461 from zJ HI0) (zR ⟨Q_HO459 h0_⟩) (by decide)) hk (fun _ h=>h.2)) (fun _ h=>h.1)) (fun _ h_=>by first|trivial|exact h_|exact h_.1))
   have z_HO465:=fun (h0_ : b 5=true)=>(show Kd.R (Kd.int .i64) 3 w13 w.heap.size (fun _=>True) v464 y463 from by first|exact (Kd.R_mono (Kd.R_keep (IsS71.apart (show IsS71 w0 _ g t461 from zJ HI0) (zR ⟨Q_HO465 h0_⟩) (by decide)) hk (fun _ h=>h.2)) (fun _ h=>h.1))|exact Kd.R_mono (Kd.R_mono (Kd.R_keep (IsS71.apart (show IsS71 w0 _ g t461 from zJ HI0) (zR ⟨Q_HO465 h0_⟩) (by decide)) hk (fun _ h=>h.2)) (fun _ h=>h.1)) (fun _ h_=>by first|trivial|exact h_|exact h_.1))
   have z_BK473:=fun (h0_ : b 14=true) (h1_ : b 15=false)=>(show w13.heap[gb473]?=some (.cells #[.int .i64 0,.int .i64 0,.int .i64 0] 24 (0,0)) from by first|exact (KeepBut.blk hk (g':=gb473) (o:=.cells #[.int .i64 0,.int .i64 0,.int .i64 0] 24 (0,0)) (zB ⟨Q_BK473 h0_ h1_⟩) (Q_NB473_0 h0_) (by simp)))
   clear BK456
   clear HK
   clear HB
   clear HI0
   have BK456:=n0_
   have HK:=n1_
   have HB:=n2_
   have HI0:=n3_
   clear n0_ n1_ n2_ n3_
   (try clear hb)
   (try clear hb2)
   (try clear hk)
   (try clear hi)
   (try clear hgw)
   refine hK.out _ _ ⟨v458,adz_v458,v464,adz_v464,gb473,m3_,m8_,m14_,(by rw [ha.out];exact putSel_upk 5 hb_ rfl rfl rfl),(zB BK456),fun h0_=>absurd ((hon 2 zk).symm.trans h0_) (by decide),(zK HK),(zI HB HI0),z_HO459,Q_HA_HO459,fun _ h1_=>absurd ((up_self b 7).symm.trans h1_) (by decide),z_HO465,Q_HA_HO465,fun _=>(zJ HI0),z_BK473,Q_GW473,Q_GE473,Q_NB0_473,Q_NB473_0,Q_NB456_473,Q_NB473_456,fun h0_=>absurd ((hoff 15 zk).symm.trans h0_) (by decide),Q_X3_,fun h0_=>absurd ((hoff 8 zk).symm.trans h0_) (by decide),Q_X14_⟩
  refine steps_cons ?_ ?_
  ·rintro b a w' ⟨v458,adz_v458,v464,adz_v464,gb473,m3_,m8_,m14_,ha,Q_BK456,Q_HI0,Q_HK,Q_HB,Q_HO459,Q_HA_HO459,Q_HI0_e2,Q_HO465,Q_HA_HO465,Q_HI0_e7,Q_BK473,Q_GW473,Q_GE473,Q_NB0_473,Q_NB473_0,Q_NB456_473,Q_NB473_456,Q_BK473_e15,Q_X3_,Q_X8_,Q_X14_⟩ hb_ hon hoff
   refine ⟨_,rfl,fun K hK=>?_⟩
   have e11 : a.tmps[11]?=some (v464):=by rw [ha];exact putSel_on (e:=(5,11,v464)) 4 rfl rfl (hon 5 zk) rfl
   have e13 : a.tmps[13]?=some (.int .i64 t466):=by rw [ha];exact putSel_on (e:=(7,13,.int .i64 t466)) 5 rfl rfl (hon 7 zk) rfl
   replace ha:=Aside0.mk ha
   have BK456:=Aside0.mk Q_BK456
   have HK:=Aside0.mk Q_HK
   have HB:=Aside0.mk Q_HB
   have HO465:=Aside0.mk (Q_HO465 (hon 5 zk))
   have HA_HO465:=Aside0.mk (Q_HA_HO465 (hon 5 zk))
   have HI0:=Aside0.mk (Q_HI0_e7 (hon 7 zk))
   obtain ⟨c_,hv_⟩:=HA_HO465.out
   rw [hv_] at e11
   refine value_ (w1:=w') (v:=.pointer (some (adz_v464.add (t466).toNat))) (by rfl) rfl ?_ ?_
   ·go_simp
    (try simp only [i64_w])
    try rfl
   refine hK.out _ _ ⟨v458,adz_v458,v464,adz_v464,gb473,m3_,(.pointer (some (adz_v464.add (t466).toNat))),m14_,(by rw [ha.out];exact putSel_upk 6 hb_ rfl rfl rfl),Q_BK456,fun h0_=>absurd ((hon 2 zk).symm.trans h0_) (by decide),Q_HK,Q_HB,Q_HO459,Q_HA_HO459,fun _ h1_=>absurd ((hon 7 zk).symm.trans h1_) (by decide),Q_HO465,Q_HA_HO465,Q_HI0_e7,Q_BK473,Q_GW473,Q_GE473,Q_NB0_473,Q_NB473_0,Q_NB456_473,Q_NB473_456,fun h0_=>absurd ((hoff 15 zk).symm.trans h0_) (by decide),Q_X3_,fun _=>rfl,Q_X14_⟩
  refine steps_cons ?_ ?_
  ·rintro b a w' ⟨v458,adz_v458,v464,adz_v464,gb473,m3_,m8_,m14_,ha,Q_BK456,Q_HI0,Q_HK,Q_HB,Q_HO459,Q_HA_HO459,Q_HI0_e2,Q_HO465,Q_HA_HO465,Q_HI0_e7,Q_BK473,Q_GW473,Q_GE473,Q_NB0_473,Q_NB473_0,Q_NB456_473,Q_NB473_456,Q_BK473_e15,Q_X3_,Q_X8_,Q_X14_⟩ hb_ hon hoff
   refine ⟨_,rfl,fun K hK=>?_⟩
   have e14 : a.tmps[14]?=some (m8_):=by rw [ha];exact putSel_on (e:=(8,14,m8_)) 6 rfl rfl (hon 8 zk) rfl
   rw [Q_X8_ (hon 8 zk)] at e14
   replace ha:=Aside0.mk ha
   have BK456:=Aside0.mk Q_BK456
   have HK:=Aside0.mk Q_HK
   have HB:=Aside0.mk Q_HB
   have HO465:=Aside0.mk (Q_HO465 (hon 5 zk))
   have HA_HO465:=Aside0.mk (Q_HA_HO465 (hon 5 zk))
   have HI0:=Aside0.mk (Q_HI0_e7 (hon 7 zk))
   obtain ⟨c_,hv_⟩:=HA_HO465.out
   have hF_:=HO465.out
   rw [hv_] at hF_
   obtain ⟨ad_,ea_,hx_⟩:=Kd.at_int (Kd.R_reads' hF_).2.2 t466 (of_eq_true pi468) (of_eq_true qi468)
   cases ea_
   refine value_ (w1:=w') (v:=.int .i64 (rd y463 t466)) (by rfl) rfl ?_ ?_
   ·go_simp
    (try simp only [i64_w])
    try rfl
   refine hK.out _ _ ⟨v458,adz_v458,v464,adz_v464,gb473,m3_,m8_,m14_,(by rw [ha.out];exact putSel_upk 7 hb_ rfl rfl rfl),Q_BK456,fun h0_=>absurd ((hon 2 zk).symm.trans h0_) (by decide),Q_HK,Q_HB,Q_HO459,Q_HA_HO459,fun _ h1_=>absurd ((hon 7 zk).symm.trans h1_) (by decide),Q_HO465,Q_HA_HO465,Q_HI0_e7,Q_BK473,Q_GW473,Q_GE473,Q_NB0_473,Q_NB473_0,Q_NB456_473,Q_NB473_456,fun h0_=>absurd ((hoff 15 zk).symm.trans h0_) (by decide),Q_X3_,Q_X8_,Q_X14_⟩
  refine steps_cons ?_ ?_
  ·rintro b a w' ⟨v458,adz_v458,v464,adz_v464,gb473,m3_,m8_,m14_,ha,Q_BK456,Q_HI0,Q_HK,Q_HB,Q_HO459,Q_HA_HO459,Q_HI0_e2,Q_HO465,Q_HA_HO465,Q_HI0_e7,Q_BK473,Q_GW473,Q_GE473,Q_NB0_473,Q_NB473_0,Q_NB456_473,Q_NB473_456,Q_BK473_e15,Q_X3_,Q_X8_,Q_X14_⟩ hb_ hon hoff
   refine ⟨_,rfl,fun K hK=>?_⟩
   have e10 : a.tmps[10]?=some (.int .i64 (rd y457 t460)):=by rw [ha];exact putSel_on (e:=(4,10,.int .i64 (rd y457 t460))) 3 rfl rfl (hon 4 zk) rfl
   have e15 : a.tmps[15]?=some (.int .i64 (rd y463 t466)):=by rw [ha];exact putSel_on (e:=(9,15,.int .i64 (rd y463 t466))) 7 rfl rfl (hon 9 zk) rfl
   replace ha:=Aside0.mk ha
   have BK456:=Aside0.mk Q_BK456
   have HK:=Aside0.mk Q_HK
   have HB:=Aside0.mk Q_HB
   have HO459:=Aside0.mk (Q_HO459 (hon 0 zk))
   have HA_HO459:=Aside0.mk (Q_HA_HO459 (hon 0 zk))
   have HO465:=Aside0.mk (Q_HO465 (hon 5 zk))
   have HA_HO465:=Aside0.mk (Q_HA_HO465 (hon 5 zk))
   have HI0:=Aside0.mk (Q_HI0_e7 (hon 7 zk))
   obtain ⟨co20,eo20⟩:=HA_HO459.out
   clear HA_HO459
   subst eo20
   obtain ⟨co21,eo21⟩:=HA_HO465.out
   clear HA_HO465
   subst eo21
   refine goes_ Try.func28 zk rfl #[.int .i64 (rd y457 t460),.int .i64 (rd y463 t466)] (by rfl) rfl rfl (by first|(simp only [List.map_toArray,List.map_cons,List.map_nil,Act.eval,Array.getD_eq_getD_getElem?,Option.getD_some,e10,e15];done)|(simp only [List.map_toArray,List.map_cons,List.map_nil,Act.eval,Array.getD_eq_getD_getElem?,Option.getD_some,e10,e15];rfl)) ?_
   with_reducible refine (soundserviceref08_New.calls (rd y457 t460) (rd y463 t466) t469 t470 t471 t472 _ A8.out).mono ?_
   rintro e w22 ⟨rfl,hb⟩
   refine ⟨_,rfl,?_⟩
   have n0_:=Aside0.mk (Kd.R_below (zR HO459) hb)
   have n1_:=Aside0.mk (Kd.R_below (zR HO465) hb)
   have n2_:=Aside0.mk (IsS71.below (zJ HI0) hb)
   have n3_:=Aside0.mk (blk_below (zB BK456) hb)
   have n4_:=Aside0.mk (KeepBut.trans (zK HK) (KeepBut.of_below hb g none) (.inl rfl))
   have n5_:=Aside0.mk (below_step (zI HB HI0) hb)
   have z_BK473:=fun (h0_ : b 14=true) (h1_ : b 15=false)=>(show w22.heap[gb473]?=some (.cells #[.int .i64 0,.int .i64 0,.int .i64 0] 24 (0,0)) from by first|exact (blk_below (zB ⟨Q_BK473 h0_ h1_⟩) hb))
   clear HO459
   clear HO465
   clear HI0
   clear BK456
   clear HK
   clear HB
   have HO459:=n0_
   have HO465:=n1_
   have HI0:=n2_
   have BK456:=n3_
   have HK:=n4_
   have HB:=n5_
   clear n0_ n1_ n2_ n3_ n4_ n5_
   (try clear hb)
   (try clear hb2)
   (try clear hk)
   (try clear hi)
   (try clear hgw)
   refine hK.out _ _ ⟨.slice (some adz_v458) y457.length co20,adz_v458,.slice (some adz_v464) y463.length co21,adz_v464,gb473,m3_,m8_,m14_,(by rw [ha.out];exact putSel_upk 8 hb_ rfl rfl rfl),(zB BK456),fun h0_=>absurd ((hon 2 zk).symm.trans h0_) (by decide),(zK HK),(zI HB HI0),fun _=>(zR HO459),fun _=>⟨_,rfl⟩,fun _ h1_=>absurd ((hon 7 zk).symm.trans h1_) (by decide),fun _=>(zR HO465),fun _=>⟨_,rfl⟩,fun _=>(zJ HI0),z_BK473,Q_GW473,Q_GE473,Q_NB0_473,Q_NB473_0,Q_NB456_473,Q_NB473_456,fun h0_=>absurd ((hoff 15 zk).symm.trans h0_) (by decide),Q_X3_,Q_X8_,Q_X14_⟩
  refine steps_cons ?_ ?_
  ·rintro b a w' ⟨v458,adz_v458,v464,adz_v464,gb473,m3_,m8_,m14_,ha,Q_BK456,Q_HI0,Q_HK,Q_HB,Q_HO459,Q_HA_HO459,Q_HI0_e2,Q_HO465,Q_HA_HO465,Q_HI0_e7,Q_BK473,Q_GW473,Q_GE473,Q_NB0_473,Q_NB473_0,Q_NB456_473,Q_NB473_456,Q_BK473_e15,Q_X3_,Q_X8_,Q_X14_⟩ hb_ hon hoff
   refine ⟨_,rfl,fun K hK=>?_⟩
   have e16 : a.tmps[16]?=some (.tuple #[.agg #[.int .i64 t469,.int .i64 t470,.int .i64 t471],.int .i64 t472]):=by rw [ha];exact putSel_on (e:=(10,16,.tuple #[.agg #[.int .i64 t469,.int .i64 t470,.int .i64 t471],.int .i64 t472])) 8 rfl rfl (hon 10 zk) rfl
   replace ha:=Aside0.mk ha
   have BK456:=Aside0.mk Q_BK456
   have HK:=Aside0.mk Q_HK
   have HB:=Aside0.mk Q_HB
   have HO459:=Aside0.mk (Q_HO459 (hon 0 zk))
   have HA_HO459:=Aside0.mk (Q_HA_HO459 (hon 0 zk))
   have HO465:=Aside0.mk (Q_HO465 (hon 5 zk))
   have HA_HO465:=Aside0.mk (Q_HA_HO465 (hon 5 zk))
   have HI0:=Aside0.mk (Q_HI0_e7 (hon 7 zk))
   refine value_ (w1:=w') (v:=.tuple #[.agg #[.int .i64 t469,.int .i64 t470,.int .i64 t471],.int .i64 t472]) (by rfl) rfl ?_ ?_
   ·go_simp
    (try simp only [i64_w])
    try rfl
   refine hK.out _ _ ⟨v458,adz_v458,v464,adz_v464,gb473,m3_,m8_,m14_,(by rw [ha.out];exact putSel_upk 9 hb_ rfl rfl rfl),Q_BK456,fun h0_=>absurd ((hon 2 zk).symm.trans h0_) (by decide),Q_HK,Q_HB,Q_HO459,Q_HA_HO459,fun _ h1_=>absurd ((hon 7 zk).symm.trans h1_) (by decide),Q_HO465,Q_HA_HO465,Q_HI0_e7,Q_BK473,Q_GW473,Q_GE473,Q_NB0_473,Q_NB473_0,Q_NB456_473,Q_NB473_456,fun h0_=>absurd ((hoff 15 zk).symm.trans h0_) (by decide),Q_X3_,Q_X8_,Q_X14_⟩
  refine steps_cons ?_ ?_
  ·rintro b a w' ⟨v458,adz_v458,v464,adz_v464,gb473,m3_,m8_,m14_,ha,Q_BK456,Q_HI0,Q_HK,Q_HB,Q_HO459,Q_HA_HO459,Q_HI0_e2,Q_HO465,Q_HA_HO465,Q_HI0_e7,Q_BK473,Q_GW473,Q_GE473,Q_NB0_473,Q_NB473_0,Q_NB456_473,Q_NB473_456,Q_BK473_e15,Q_X3_,Q_X8_,Q_X14_⟩ hb_ hon hoff
   refine ⟨_,rfl,fun K hK=>?_⟩
   have e5 : a.tmps[5]?=some (.tuple #[.agg #[.int .i64 t469,.int .i64 t470,.int .i64 t471],.int .i64 t472]):=by rw [ha];exact putSel_on (e:=(11,5,.tuple #[.agg #[.int .i64 t469,.int .i64 t470,.int .i64 t471],.int .i64 t472])) 9 rfl rfl (hon 11 zk) rfl
   replace ha:=Aside0.mk ha
   have BK456:=Aside0.mk Q_BK456
   have HK:=Aside0.mk Q_HK
   have HB:=Aside0.mk Q_HB
   have HO459:=Aside0.mk (Q_HO459 (hon 0 zk))
   have HA_HO459:=Aside0.mk (Q_HA_HO459 (hon 0 zk))
   have HO465:=Aside0.mk (Q_HO465 (hon 5 zk))
   have HA_HO465:=Aside0.mk (Q_HA_HO465 (hon 5 zk))
   have HI0:=Aside0.mk (Q_HI0_e7 (hon 7 zk))
   refine value_ (w1:=w') (v:=.agg #[.int .i64 t469,.int .i64 t470,.int .i64 t471]) (by rfl) rfl ?_ ?_
   ·go_simp
    (try simp only [i64_w])
    try rfl
   refine hK.out _ _ ⟨v458,adz_v458,v464,adz_v464,gb473,m3_,m8_,m14_,(by rw [ha.out];exact putSel_upk 10 hb_ rfl rfl rfl),Q_BK456,fun h0_=>absurd ((hon 2 zk).symm.trans h0_) (by decide),Q_HK,Q_HB,Q_HO459,Q_HA_HO459,fun _ h1_=>absurd ((hon 7 zk).symm.trans h1_) (by decide),Q_HO465,Q_HA_HO465,Q_HI0_e7,Q_BK473,Q_GW473,Q_GE473,Q_NB0_473,Q_NB473_0,Q_NB456_473,Q_NB473_456,fun h0_=>absurd ((hoff 15 zk).symm.trans h0_) (by decide),Q_X3_,Q_X8_,Q_X14_⟩
  refine steps_cons ?_ ?_
  ·rintro b a w' ⟨v458,adz_v458,v464,adz_v464,gb473,m3_,m8_,m14_,ha,Q_BK456,Q_HI0,Q_HK,Q_HB,Q_HO459,Q_HA_HO459,Q_HI0_e2,Q_HO465,Q_HA_HO465,Q_HI0_e7,Q_BK473,Q_GW473,Q_GE473,Q_NB0_473,Q_NB473_0,Q_NB456_473,Q_NB473_456,Q_BK473_e15,Q_X3_,Q_X8_,Q_X14_⟩ hb_ hon hoff
   refine ⟨_,rfl,fun K hK=>?_⟩
   have e5 : a.tmps[5]?=some (.tuple #[.agg #[.int .i64 t469,.int .i64 t470,.int .i64 t471],.int .i64 t472]):=by rw [ha];exact putSel_on (e:=(11,5,.tuple #[.agg #[.int .i64 t469,.int .i64 t470,.int .i64 t471],.int .i64 t472])) 9 rfl rfl (hon 11 zk) rfl
   replace ha:=Aside0.mk ha
   have BK456:=Aside0.mk Q_BK456
   have HK:=Aside0.mk Q_HK
   have HB:=Aside0.mk Q_HB
   have HO459:=Aside0.mk (Q_HO459 (hon 0 zk))
   have HA_HO459:=Aside0.mk (Q_HA_HO459 (hon 0 zk))
   have HO465:=Aside0.mk (Q_HO465 (hon 5 zk))
   have HA_HO465:=Aside0.mk (Q_HA_HO465 (hon 5 zk))
   have HI0:=Aside0.mk (Q_HI0_e7 (hon 7 zk))
   refine value_ (w1:=w') (v:=.int .i64 t472) (by rfl) rfl ?_ ?_
   ·go_simp
    (try simp only [i64_w])
    try rfl
   refine hK.out _ _ ⟨v458,adz_v458,v464,adz_v464,gb473,m3_,m8_,m14_,(by rw [ha.out];exact putSel_upk 11 hb_ rfl rfl rfl),Q_BK456,fun h0_=>absurd ((hon 2 zk).symm.trans h0_) (by decide),Q_HK,Q_HB,Q_HO459,Q_HA_HO459,fun _ h1_=>absurd ((hon 7 zk).symm.trans h1_) (by decide),Q_HO465,Q_HA_HO465,Q_HI0_e7,Q_BK473,Q_GW473,Q_GE473,Q_NB0_473,Q_NB473_0,Q_NB456_473,Q_NB473_456,Q_BK473_e15,Q_X3_,Q_X8_,Q_X14_⟩
  refine steps_cons ?_ ?_
  ·rintro b a w' ⟨v458,adz_v458,v464,adz_v464,gb473,m3_,m8_,m14_,ha,Q_BK456,Q_HI0,Q_HK,Q_HB,Q_HO459,Q_HA_HO459,Q_HI0_e2,Q_HO465,Q_HA_HO465,Q_HI0_e7,Q_BK473,Q_GW473,Q_GE473,Q_NB0_473,Q_NB473_0,Q_NB456_473,Q_NB473_456,Q_BK473_e15,Q_X3_,Q_X8_,Q_X14_⟩ hb_ hon hoff
   refine ⟨_,rfl,fun K hK=>?_⟩
   replace ha:=Aside0.mk ha
   have BK456:=Aside0.mk Q_BK456
   have HK:=Aside0.mk Q_HK
   have HB:=Aside0.mk Q_HB
   refine box_step ?hg (N:=3) ?hd (cs:=#[.int .i64 0,.int .i64 0,.int .i64 0]) (t:=24) ?hr ?_;(case hd=>rfl);(case hg=>rfl);(case hr=>first|(go_simp;done)|(go_simp;rfl))
   intro gb473 hg w11 hbox hb
   have n1_:=Aside0.mk (blk_below (zB BK456) hb)
   have n2_:=Aside0.mk (KeepBut.trans (zK HK) (KeepBut.of_below hb g none) (.inl rfl))
   have n3_:=Aside0.mk (below_step (zW HB) hb)
   have n4_:=Aside0.mk hbox
   have n5_:=Aside0.mk ((by rw [hg];exact (keep_size (w:=w) (g:=g) (row:=none) (zK HK)) : w.heap.size≤gb473))
   have n6_:=Aside0.mk ((Nat.le_trans HW0.out (by rw [hg];exact (keep_size (w:=w) (g:=g) (row:=none) (zK HK)) : w.heap.size≤gb473) : w0.heap.size≤gb473))
   have n7_:=Aside0.mk (zL hg BK456)
   have n8_:=Aside0.mk (zG hg BK456)
   have n9_:=Aside0.mk ((by rw [hg];exact Nat.ne_of_lt (Nat.lt_of_lt_of_le HGT.out (show KeepBut w _ g none from zK HK).1) : g≠gb473))
   have n10_:=Aside0.mk ((by rw [hg];exact Nat.ne_of_gt (Nat.lt_of_lt_of_le HGT.out (show KeepBut w _ g none from zK HK).1) : gb473≠g))
   have z_HI0:=fun (h0_ : b 2=false)=>(show IsS71 w0 w11 g s0_0 from by first|exact (IsS71.below (by repeat (first|(with_reducible first|exact (Q_HI0 h0_)|apply IsS71.alloc|apply IsS71.drewN|apply IsS71.drew|apply IsS71.set_0|refine IsS71.far ?_ NB0_456.out _)|exact (Q_HI0 h0_))) hb))
   have z_HO459:=fun (h0_ : b 0=true)=>(show Kd.R (Kd.int .i64) 3 w11 w.heap.size (fun _=>True) v458 y457 from by first|exact (Kd.R_below (zR ⟨Q_HO459 h0_⟩) hb)|exact Kd.R_mono (Kd.R_below (zR ⟨Q_HO459 h0_⟩) hb) (fun _ h_=>by first|trivial|exact h_|exact h_.1))
   have z_HI0_e2:=fun (h0_ : b 2=true) (h1_ : b 7=false)=>(show IsS71 w0 w11 g t461 from by first|exact (IsS71.below (by repeat (first|(with_reducible first|exact (Q_HI0_e2 h0_ h1_)|apply IsS71.alloc|apply IsS71.drewN|apply IsS71.drew|apply IsS71.set_0|refine IsS71.far ?_ NB0_456.out _)|exact (Q_HI0_e2 h0_ h1_))) hb))
   have z_HO465:=fun (h0_ : b 5=true)=>(show Kd.R (Kd.int .i64) 3 w11 w.heap.size (fun _=>True) v464 y463 from by first|exact (Kd.R_below (zR ⟨Q_HO465 h0_⟩) hb)|exact Kd.R_mono (Kd.R_below (zR ⟨Q_HO465 h0_⟩) hb) (fun _ h_=>by first|trivial|exact h_|exact h_.1))
   have z_HI0_e7:=fun (h0_ : b 7=true)=>(show IsS71 w0 w11 g t467 from by first|exact (IsS71.below (by repeat (first|(with_reducible first|exact (Q_HI0_e7 h0_)|apply IsS71.alloc|apply IsS71.drewN|apply IsS71.drew|apply IsS71.set_0|refine IsS71.far ?_ NB0_456.out _)|exact (Q_HI0_e7 h0_))) hb))
   clear BK456
   clear HK
   clear HB
   have BK456:=n1_
   have HK:=n2_
   have HB:=n3_
   have BK473:=n4_
   have GW473:=n5_
   have GE473:=n6_
   have NB456_473:=n7_
   have NB473_456:=n8_
   have NB0_473:=n9_
   have NB473_0:=n10_
   clear n1_ n2_ n3_ n4_ n5_ n6_ n7_ n8_ n9_ n10_
   clear hb hbox hg
   refine hK.out _ _ ⟨v458,adz_v458,v464,adz_v464,gb473,m3_,m8_,(.pointer (some ⟨gb473,0,none⟩)),(by rw [ha.out];exact putSel_upk 12 hb_ rfl rfl rfl),(zB BK456),z_HI0,(zK HK),(zW HB),z_HO459,Q_HA_HO459,z_HI0_e2,z_HO465,Q_HA_HO465,z_HI0_e7,fun _ _=>(zB BK473),fun _=>GW473.out,fun _=>GE473.out,fun _=>NB0_473.out,fun _=>NB473_0.out,fun _=>NB456_473.out,fun _=>NB473_456.out,fun h0_=>absurd ((hoff 15 zk).symm.trans h0_) (by decide),Q_X3_,Q_X8_,fun _=>rfl⟩
  refine steps_cons ?_ ?_
  ·rintro b a w' ⟨v458,adz_v458,v464,adz_v464,gb473,m3_,m8_,m14_,ha,Q_BK456,Q_HI0,Q_HK,Q_HB,Q_HO459,Q_HA_HO459,Q_HI0_e2,Q_HO465,Q_HA_HO465,Q_HI0_e7,Q_BK473,Q_GW473,Q_GE473,Q_NB0_473,Q_NB473_0,Q_NB456_473,Q_NB473_456,Q_BK473_e15,Q_X3_,Q_X8_,Q_X14_⟩ hb_ hon hoff
   refine ⟨_,rfl,fun K hK=>?_⟩
   have e3 : a.tmps[3]?=some (m14_):=by rw [ha];exact putSel_on (e:=(14,3,m14_)) 12 rfl rfl (hon 14 zk) rfl
   rw [Q_X14_ (hon 14 zk)] at e3
   have e17 : a.tmps[17]?=some (.agg #[.int .i64 t469,.int .i64 t470,.int .i64 t471]):=by rw [ha];exact putSel_on (e:=(12,17,.agg #[.int .i64 t469,.int .i64 t470,.int .i64 t471])) 10 rfl rfl (hon 12 zk) rfl
   replace ha:=Aside0.mk ha
   have BK456:=Aside0.mk Q_BK456
   have HK:=Aside0.mk Q_HK
   have HB:=Aside0.mk Q_HB
   have HO459:=Aside0.mk (Q_HO459 (hon 0 zk))
   have HA_HO459:=Aside0.mk (Q_HA_HO459 (hon 0 zk))
   have HO465:=Aside0.mk (Q_HO465 (hon 5 zk))
   have HA_HO465:=Aside0.mk (Q_HA_HO465 (hon 5 zk))
   have HI0:=Aside0.mk (Q_HI0_e7 (hon 7 zk))
   have BK473:=Aside0.mk (Q_BK473 (hon 14 zk) hb_)
   have GW473:=Aside0.mk (Q_GW473 (hon 14 zk))
   have GE473:=Aside0.mk (Q_GE473 (hon 14 zk))
   have NB0_473:=Aside0.mk (Q_NB0_473 (hon 14 zk))
   have NB473_0:=Aside0.mk (Q_NB473_0 (hon 14 zk))
   have NB456_473:=Aside0.mk (Q_NB456_473 (hon 14 zk))
   have NB473_456:=Aside0.mk (Q_NB473_456 (hon 14 zk))
   obtain ⟨co22,eo22⟩:=HA_HO459.out
   clear HA_HO459
   subst eo22
   obtain ⟨co23,eo23⟩:=HA_HO465.out
   clear HA_HO465
   subst eo23
   have hs24 : w'.cell? ⟨gb473,0,none⟩=some (.int .i64 0):=(blk_cell BK473.out 0).trans rfl
   have hfs24:=blk_frozen BK473.out 0
   have hns24_0:=NB456_473.out
   have hms24_0:=NB473_456.out
   have hs25 : w'.cell? ⟨gb473,1,none⟩=some (.int .i64 0):=(blk_cell BK473.out 1).trans rfl
   have hfs25:=blk_frozen BK473.out 1
   have hns25_0:=NB456_473.out
   have hms25_0:=NB473_456.out
   have hs26 : w'.cell? ⟨gb473,2,none⟩=some (.int .i64 0):=(blk_cell BK473.out 2).trans rfl
   have hfs26:=blk_frozen BK473.out 2
   have hns26_0:=NB456_473.out
   have hms26_0:=NB473_456.out
   refine skip_ (w1:=?_) (by rfl) rfl ?_ ?_
   rotate_left
   ·go_simp
    rfl
   refine hK.out _ _ ⟨.slice (some adz_v458) y457.length co22,adz_v458,.slice (some adz_v464) y463.length co23,adz_v464,gb473,m3_,m8_,m14_,(by rw [ha.out];exact putSel_none (v:=undef) rfl),(zB BK456),fun h0_=>absurd ((hon 2 zk).symm.trans h0_) (by decide),(zK HK),(zI HB HI0),fun _=>(by (with_reducible repeat (first|apply Kd.R_alloc|apply Kd.R_drewN|apply Kd.R_drew));exact Kd.R_mono (Kd.R_far (p:=⟨gb473,2,none⟩) (Kd.R_far (p:=⟨gb473,1,none⟩) (Kd.R_far (p:=⟨gb473,0,none⟩) (Kd.R_types HO459.out BK473.out (by decide)) (fun _ hk=>hk.2) (.int .i64 t469)) (fun _ hk=>hk.2) (.int .i64 t470)) (fun _ hk=>hk.2) (.int .i64 t471)) (fun _ hk=>hk.1)),fun _=>⟨_,rfl⟩,fun _ h1_=>absurd ((hon 7 zk).symm.trans h1_) (by decide),fun _=>(by (with_reducible repeat (first|apply Kd.R_alloc|apply Kd.R_drewN|apply Kd.R_drew));exact Kd.R_mono (Kd.R_far (p:=⟨gb473,2,none⟩) (Kd.R_far (p:=⟨gb473,1,none⟩) (Kd.R_far (p:=⟨gb473,0,none⟩) (Kd.R_types HO465.out BK473.out (by decide)) (fun _ hk=>hk.2) (.int .i64 t469)) (fun _ hk=>hk.2) (.int .i64 t470)) (fun _ hk=>hk.2) (.int .i64 t471)) (fun _ hk=>hk.1)),fun _=>⟨_,rfl⟩,fun _=>(zJ HI0),fun _ h1_=>absurd ((up_self b 15).symm.trans h1_) (by decide),fun _=>GW473.out,fun _=>GE473.out,fun _=>NB0_473.out,fun _=>NB473_0.out,fun _=>NB456_473.out,fun _=>NB473_456.out,fun _=>(zB BK473),Q_X3_,Q_X8_,Q_X14_⟩
  refine steps_cons ?_ ?_
  ·rintro b a w' ⟨v458,adz_v458,v464,adz_v464,gb473,m3_,m8_,m14_,ha,Q_BK456,Q_HI0,Q_HK,Q_HB,Q_HO459,Q_HA_HO459,Q_HI0_e2,Q_HO465,Q_HA_HO465,Q_HI0_e7,Q_BK473,Q_GW473,Q_GE473,Q_NB0_473,Q_NB473_0,Q_NB456_473,Q_NB473_456,Q_BK473_e15,Q_X3_,Q_X8_,Q_X14_⟩ hb_ hon hoff
   refine ⟨_,rfl,fun K hK=>?_⟩
   have e18 : a.tmps[18]?=some (.int .i64 t472):=by rw [ha];exact putSel_on (e:=(13,18,.int .i64 t472)) 11 rfl rfl (hon 13 zk) rfl
   replace ha:=Aside0.mk ha
   have BK456:=Aside0.mk Q_BK456
   have HK:=Aside0.mk Q_HK
   have HB:=Aside0.mk Q_HB
   have HO459:=Aside0.mk (Q_HO459 (hon 0 zk))
   have HA_HO459:=Aside0.mk (Q_HA_HO459 (hon 0 zk))
   have HO465:=Aside0.mk (Q_HO465 (hon 5 zk))
   have HA_HO465:=Aside0.mk (Q_HA_HO465 (hon 5 zk))
   have HI0:=Aside0.mk (Q_HI0_e7 (hon 7 zk))
   have GW473:=Aside0.mk (Q_GW473 (hon 14 zk))
   have GE473:=Aside0.mk (Q_GE473 (hon 14 zk))
   have NB0_473:=Aside0.mk (Q_NB0_473 (hon 14 zk))
   have NB473_0:=Aside0.mk (Q_NB473_0 (hon 14 zk))
   have NB456_473:=Aside0.mk (Q_NB456_473 (hon 14 zk))
   have NB473_456:=Aside0.mk (Q_NB473_456 (hon 14 zk))
   have BK473:=Aside0.mk (Q_BK473_e15 (hon 15 zk))
   refine value_ (w1:=w') (v:=.int .i64 t472) (by rfl) rfl ?_ ?_
   ·go_simp
    (try simp only [i64_w])
    try rfl
   refine hK.out _ _ ⟨v458,adz_v458,v464,adz_v464,gb473,m3_,m8_,m14_,(by rw [ha.out];exact putSel_upk 13 hb_ rfl rfl rfl),Q_BK456,fun h0_=>absurd ((hon 2 zk).symm.trans h0_) (by decide),Q_HK,Q_HB,Q_HO459,Q_HA_HO459,fun _ h1_=>absurd ((hon 7 zk).symm.trans h1_) (by decide),Q_HO465,Q_HA_HO465,Q_HI0_e7,fun _ h1_=>absurd ((hon 15 zk).symm.trans h1_) (by decide),Q_GW473,Q_GE473,Q_NB0_473,Q_NB473_0,Q_NB456_473,Q_NB473_456,Q_BK473_e15,Q_X3_,Q_X8_,Q_X14_⟩
  exact steps_nil
 rintro b a w24 hall ⟨v458,adz_v458,v464,adz_v464,gb473,m3_,m8_,m14_,ha,Q_BK456,Q_HI0,Q_HK,Q_HB,Q_HO459,Q_HA_HO459,Q_HI0_e2,Q_HO465,Q_HA_HO465,Q_HI0_e7,Q_BK473,Q_GW473,Q_GE473,Q_NB0_473,Q_NB473_0,Q_NB456_473,Q_NB473_456,Q_BK473_e15,Q_X3_,Q_X8_,Q_X14_⟩
 clear BK456 HB HI0 HK
 have hb0_:=hall 0 zk
 have hb2_:=hall 2 zk
 have hb3_:=hall 3 zk
 have hb4_:=hall 4 zk
 have hb5_:=hall 5 zk
 have hb7_:=hall 7 zk
 have hb8_:=hall 8 zk
 have hb9_:=hall 9 zk
 have hb10_:=hall 10 zk
 have hb11_:=hall 11 zk
 have hb12_:=hall 12 zk
 have hb13_:=hall 13 zk
 have hb14_:=hall 14 zk
 have hb15_:=hall 15 zk
 have hb16_:=hall 16 zk
 subst ha
 obtain rfl:=Q_X3_ hb3_
 obtain rfl:=Q_X8_ hb8_
 obtain rfl:=Q_X14_ hb14_
 simp only [putSel,hb0_,hb2_,hb3_,hb4_,hb5_,hb7_,hb8_,hb9_,hb10_,hb11_,hb12_,hb13_,hb14_,hb15_,hb16_,if_true,Act.put,List.setIfInBounds_toArray,List.set_cons_zero,List.set_cons_succ]
 have BK456:=Aside0.mk Q_BK456
 clear Q_BK456
 clear Q_HI0
 have HK:=Aside0.mk Q_HK
 clear Q_HK
 have HB:=Aside0.mk Q_HB
 clear Q_HB
 have HO459:=Aside0.mk (Q_HO459 hb0_)
 clear Q_HO459
 have HA_HO459:=Aside0.mk (Q_HA_HO459 hb0_)
 clear Q_HA_HO459
 clear Q_HI0_e2
 have HO465:=Aside0.mk (Q_HO465 hb5_)
 clear Q_HO465
 have HA_HO465:=Aside0.mk (Q_HA_HO465 hb5_)
 clear Q_HA_HO465
 have HI0:=Aside0.mk (Q_HI0_e7 hb7_)
 clear Q_HI0_e7
 clear Q_BK473
 have GW473:=Aside0.mk (Q_GW473 hb14_)
 clear Q_GW473
 have GE473:=Aside0.mk (Q_GE473 hb14_)
 clear Q_GE473
 have NB0_473:=Aside0.mk (Q_NB0_473 hb14_)
 clear Q_NB0_473
 have NB473_0:=Aside0.mk (Q_NB473_0 hb14_)
 clear Q_NB473_0
 have NB456_473:=Aside0.mk (Q_NB456_473 hb14_)
 clear Q_NB456_473
 have NB473_456:=Aside0.mk (Q_NB473_456 hb14_)
 clear Q_NB473_456
 have BK473:=Aside0.mk (Q_BK473_e15 hb15_)
 clear Q_BK473_e15
 clear hall hb0_ hb2_ hb3_ hb4_ hb5_ hb7_ hb8_ hb9_ hb10_ hb11_ hb12_ hb13_ hb14_ hb15_ hb16_
 obtain ⟨co25,eo25⟩:=HA_HO459.out
 clear HA_HO459
 subst eo25
 obtain ⟨co26,eo26⟩:=HA_HO465.out
 clear HA_HO465
 subst eo26
 have hnb27:=NB473_456.out
 have hnc27:=NB456_473.out
 have hnb28:=NB473_0.out
 have hnc28:=NB0_473.out
 have hcz29_0:=zc BK473 0 (.int .i64 t469) rfl
 have hcz29_1:=zc BK473 1 (.int .i64 t470) rfl
 have hcz29_2:=zc BK473 2 (.int .i64 t471) rfl
 have hfz29_0:=blk_frozen BK473.out 0
 have hfz29_1:=blk_frozen BK473.out 1
 have hfz29_2:=blk_frozen BK473.out 2
 have hnb30:=NB456_0.out
 have hnc30:=NB0_456.out
 have hcz31_0:=zc BK456 0 (.int .i64 0) rfl
 have hcz31_1:=zc BK456 1 (.int .i64 0) rfl
 have hcz31_2:=zc BK456 2 (.int .i64 0) rfl
 have hfz31_0:=blk_frozen BK456.out 0
 have hfz31_1:=blk_frozen BK456.out 1
 have hfz31_2:=blk_frozen BK456.out 2
 try go_wp2
 refine bodyPost_ret (results_cell_row rfl _ _ gb456 24 #[.int .i64 t469,.int .i64 t470,.int .i64 t471] (0,0) _ rfl (zB BK456) Try.underlying24 rfl zk) rfl ?_
 exact ⟨zX,by repeat (first|(with_reducible first|exact HI0.out|apply IsS71.alloc|apply IsS71.drewN|apply IsS71.drew|apply IsS71.set_0|refine IsS71.far ?_ NB0_456.out _|refine IsS71.far ?_ NB0_473.out _)|exact HI0.out),by repeat (first|(with_reducible first|exact HB.out|apply below_alloc|apply pw_below_drewN|apply below_drew1|refine below_set ?_ (IsS71.ge HI0.out)|refine below_set ?_ GE456.out|refine below_set ?_ GE473.out)|exact HB.out),zK HK⟩

end Go.Proofs.Ytcnmemcclhahnaa.QT
