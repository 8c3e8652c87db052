-- Written by a program of this session, out of the seat's translation; checked by the kernel alone.
import Derived.Test.YtcnmemcclhahnaaQT0
namespace Go.Proofs.Ytcnmemcclhahnaa.QT
open Go.RowKit Go.Proofs.YtcnmemcclhahnaaW.PrintWords Go.Proofs.YtcnmemcclhahnaaW.PrintLast Go.Proofs.YtcnmemcclhahnaaW.PrintMore
attribute [local go_sem] max2_int min2_int max_two min_two max_three min_three max_four min_four   -- for this text's walks alone
set_option linter.unusedVariables false
set_option linter.unusedSimpArgs false

def IsS71 (w0 W : World) (g : Nat) (f0 : List Int) : Prop:=∃ A0 c0,W.heap[g]?=some (.cells #[.slice A0 f0.length c0] 71 (0,0))∧w0.heap.size≤g∧(Kd.C (Kd.int .u8) w0 A0 f0.length f0∧f0.length≤c0)
theorem IsS71.grown {w0 W : World} {g : Nat} {f0 : List Int} {W1 : World} {row : Option Nat} (h : IsS71 w0 W g f0) (hw : W.grownBy W1 row) (hne : some g≠row) : IsS71 w0 W1 g f0:=by
 obtain ⟨A0,c0,hb,hg,hr0⟩:=h;exact ⟨A0,c0,blk_grown hb hw hne,hg,hr0⟩
theorem IsS71.own_neN {w0 W : World} {g : Nat} {f0 : List Int} {α : Type} {d : Kd α} {e : Nat} {base : Nat} {ok : Nat→Prop} {v : Value} {xs : List α} (h : IsS71 w0 W g f0) (ho : Kd.N d e W base ok v xs) (ht : e≠71) : some g≠v.ownBlock:=by
 obtain ⟨A0,c0,hb,hg,hr0⟩:=h;exact Kd.N_ne ho hb ht
theorem IsS71.fresh {w0 W : World} {g : Nat} {f0 : List Int} (h : IsS71 w0 W g f0) : ∀ k,W.heap.size≤k→k≠g:=by
 obtain ⟨A0,c0,hb,hg,hr0⟩:=h;exact Kd.freshB hb
theorem IsS71.kept {w0 W : World} {g : Nat} {f0 : List Int} {W1 : World} {S : Nat→Prop} (h : IsS71 w0 W g f0) (hk : Kept W W1 S) (hne : ¬ S g) : IsS71 w0 W1 g f0:=by
 obtain ⟨A0,c0,hb,hg,hr0⟩:=h;exact ⟨A0,c0,blk_kept hb hk hne,hg,hr0⟩
theorem IsS71.below {w0 W : World} {g : Nat} {f0 : List Int} {W1 : World} (h : IsS71 w0 W g f0) (hw : Below W.heap.size W W1) : IsS71 w0 W1 g f0:=h.grown (grown_of_below hw none) (by simp)
theorem IsS71.alloc {w0 W : World} {g : Nat} {f0 : List Int} (h : IsS71 w0 W g f0) (o : Obj) : IsS71 w0 (W.alloc o) g f0:=h.below (below_alloc (Below.refl _ _) o)
theorem IsS71.drewN {w0 W : World} {g : Nat} {f0 : List Int} (h : IsS71 w0 W g f0) (m : Nat) : IsS71 w0 (W.drewN m) g f0:=h
theorem IsS71.drew {w0 W : World} {g : Nat} {f0 : List Int} (h : IsS71 w0 W g f0) : IsS71 w0 W.drew g f0:=h
theorem IsS71.at_ {w0 W : World} {g : Nat} {f0 : List Int} {w' : World} {m : Nat} (hq : W.drewN m=w') (h : IsS71 w0 W g f0) : IsS71 w0 w' g f0:=by subst hq;exact IsS71.drewN h m
theorem IsS71.apart {w0 W : World} {g : Nat} {f0 : List Int} {α : Type} {d : Kd α} {e : Nat} {base : Nat} {ok : Nat→Prop} {v : Value} {xs : List α} (h : IsS71 w0 W g f0) (ho : d.R e W base ok v xs) (ht : ∀ q,q ∈ e :: d.E→q≠71) : d.R e W base (fun k=>ok k∧k≠g) v xs:=by
 obtain ⟨A0,c0,hb,hg,hr0⟩:=h;exact Kd.R_types ho hb ht
theorem IsS71.own_ne {w0 W : World} {g : Nat} {f0 : List Int} {α : Type} {d : Kd α} {e : Nat} {base : Nat} {ok : Nat→Prop} {v : Value} {xs : List α} (h : IsS71 w0 W g f0) (ho : d.R e W base ok v xs) (ht : e≠71) : some g≠v.ownBlock:=by
 obtain ⟨A0,c0,hb,hg,hr0⟩:=h;exact Kd.R_ne ho hb ht
theorem IsS71.apartQ {w0 W : World} {g : Nat} {f0 : List Int} {α : Type} {d : Kd α} {e : Nat} {base : Nat} {ok : Nat→Prop} {v : Value} {xs : List α} (h : IsS71 w0 W g f0) (ho : d.Q e W base ok v xs) (ht : ∀ q,q ∈ e :: d.E→q≠71) : d.Q e W base (fun k=>ok k∧k≠g) v xs:=by
 obtain ⟨A0,c0,hb,hg,hr0⟩:=h;exact Kd.Q_types ho hb ht
theorem IsS71.own_neQ {w0 W : World} {g : Nat} {f0 : List Int} {α : Type} {d : Kd α} {e : Nat} {base : Nat} {ok : Nat→Prop} {v : Value} {xs : List α} (h : IsS71 w0 W g f0) (ho : d.Q e W base ok v xs) (ht : e≠71) : some g≠v.ownBlock:=by
 obtain ⟨A0,c0,hb,hg,hr0⟩:=h;exact Kd.Q_ne ho hb ht
theorem IsS71.apartS {w0 W : World} {g : Nat} {f0 : List Int} {α : Type} {d : Kd α} {e : Nat} {base : Nat} {ok : Nat→Prop} {v : Value} {xs : List α} (h : IsS71 w0 W g f0) (ho : d.S e W base ok v xs) (ht : ∀ q,q ∈ e :: d.E→q≠71) : d.S e W base (fun k=>ok k∧k≠g) v xs:=by
 obtain ⟨A0,c0,hb,hg,hr0⟩:=h;exact Kd.S_types ho hb ht
theorem IsS71.own_neS {w0 W : World} {g : Nat} {f0 : List Int} {α : Type} {d : Kd α} {e : Nat} {base : Nat} {ok : Nat→Prop} {v : Value} {xs : List α} (h : IsS71 w0 W g f0) (ho : d.S e W base ok v xs) (ht : e≠71) : some g≠v.ownBlock:=by
 obtain ⟨A0,c0,hb,hg,hr0⟩:=h;exact Kd.S_ne ho hb ht
theorem IsS71.lt {w0 W : World} {g : Nat} {f0 : List Int} (h : IsS71 w0 W g f0) : g<W.heap.size:=by
 obtain ⟨A0,c0,hb,hg,hr0⟩:=h;exact blk_lt hb
theorem IsS71.ge {w0 W : World} {g : Nat} {f0 : List Int} (h : IsS71 w0 W g f0) : w0.heap.size≤g:=by
 obtain ⟨A0,c0,hb,hg,hr0⟩:=h;exact hg
theorem IsS71.ne_blk {w0 W : World} {g : Nat} {f0 : List Int} {a : Nat} {cs : Array Value} {t : TypeId} {fr : Nat×Nat} (h : IsS71 w0 W g f0) (hb2 : W.heap[a]?=some (.cells cs t fr)) (ht : t≠71) : g≠a:=by
 obtain ⟨A0,c0,hb,hg,hr0⟩:=h;rintro rfl;rw [hb] at hb2;injection hb2 with hb2;injection hb2 with _ ht2;exact ht ht2.symm
theorem IsS71.far {w0 W : World} {g : Nat} {f0 : List Int} {p : Addr} (h : IsS71 w0 W g f0) (hne : g≠p.block) (u : Value) : IsS71 w0 (W.setCell p u) g f0:=by
 obtain ⟨A0,c0,hb,hg,hr0⟩:=h;exact ⟨A0,c0,blk_far hb hne u,hg,hr0⟩
theorem zI {w0 w1 w W : World} {g : Nat} {f0 : List Int} (x : Aside0 (Below w0.heap.size w0 w1)) (y : Aside0 (IsS71 w0 W g f0)) (f : w0.heap.size≤g→Below w0.heap.size w0 w1→Below w0.heap.size w0 w:=by intro g_ h_;repeat (first|(with_reducible first|exact h_|apply below_alloc|apply pw_below_drewN|apply below_drew1|refine below_set ?_ g_|refine below_set ?_ (Aside0.out (by with_reducible assumption)))|exact h_)) : Below w0.heap.size w0 w:=f y.out.ge x.out
theorem zJ {w0 W W' : World} {g : Nat} {f0 : List Int} {f0x : List Int} (x : Aside0 (IsS71 w0 W g f0)) (f : IsS71 w0 W g f0→IsS71 w0 W' g f0x:=by intro h_;repeat (first|(with_reducible first|exact h_|apply IsS71.alloc|apply IsS71.drewN|apply IsS71.drew|refine IsS71.far ?_ (Aside0.out (by with_reducible assumption)) _)|exact h_)) : IsS71 w0 W' g f0x:=f x.out
theorem cellS71_0 {W : World} {g : Nat} {A0 : Option Addr} {c0 : Nat} {f0 : List Int} (h : W.heap[g]?=some (.cells #[.slice A0 f0.length c0] 71 (0,0))) : W.cell? ⟨g,0,none⟩=some (.slice A0 f0.length c0):=(blk_cell h 0).trans rfl
theorem IsS71.new (w0 W : World) (A0 : Option Addr) (c0 : Nat) (f0 : List Int) (hB : Below w0.heap.size w0 W) (hr0 : (Kd.C (Kd.int .u8) w0 A0 f0.length f0∧f0.length≤c0)) : IsS71 w0 (W.alloc (.cells #[.slice A0 f0.length c0] 71)) W.heap.size f0:=⟨A0,c0,by simpa using heap_alloc_new W _,hB.size,hr0⟩

def soundservicemade_New.f (l0 : List Int) : Option (List Int):=if 0≤(mn (l0.length : Int) 300) then (if (mn (l0.length : Int) 300)≤(l0.length : Int) then (some (l0.take ((mn (l0.length : Int) 300) : Int).toNat)) else (none)) else (none)
set_option maxHeartbeats 8000000 in
set_option maxRecDepth 100000 in
theorem soundservicemade_New.calls (A0 : Option Addr) (c0 : Nat) (l0 : List Int) (r : List Int) (w0 w : World) (hB : Below w0.heap.size w0 w) (hr0 : Kd.C (Kd.int .u8) w0 A0 l0.length l0) (hc0 : l0.length≤c0) (h : soundservicemade_New.f l0=some r) :
  Calls Try.prog 10 #[.slice A0 l0.length c0] w fun e w'=>∃ g_ : Nat,e = .returned (.pointer (some ⟨g_,0,none⟩))∧IsS71 w0 w' g_ r∧Below w0.heap.size w0 w'∧Below w.heap.size w w'∧w.heap.size≤g_:=by
 have hu71:=Try.underlying71;have HR0:=zo hr0;have HC0:=zo hc0;clear hr0 hc0;have HBW:=zo (Below.refl w.heap.size w);have HW0:=zo hB.size;have HB:=zo hB;clear hB;have H:=h;unfold soundservicemade_New.f at H;clear h;obtain ⟨ji2,hji2⟩ : ∃ j_ : Int,(mn (l0.length : Int) 300)=j_:=⟨_,rfl⟩;(first|rw [hji2] at H|simp only [hji2] at H);(try (have hji2h : ji2≤300:=by (rw [← hji2];unfold mn;(repeat' split) <;> omega)));(try (have hji2g : ji2≤64:=by omega));(try (have hji2l : 0≤ji2:=by (rw [← hji2];unfold mn;(repeat' split) <;> omega)));(try (have hji2m : 0≤ji2:=by omega));have hji2_ : (if 300<(l0.length : Int) then 300 else (l0.length : Int))=ji2:=hji2
 by_cases c3 : 0≤(ji2)
 rotate_left
 ·rw [if_neg c3] at H;exact absurd H (by simp)
 rw [if_pos c3] at H;have c3b0:=eq_true c3;have c3b1:=decide_eq_true c3;clear c3
 by_cases c4 : (ji2)≤(l0.length : Int)
 rotate_left
 ·rw [if_neg c4] at H;exact absurd H (by simp)
 rw [if_pos c4] at H;have c4b0:=eq_true c4;have c4b1:=decide_eq_true c4;clear c4;obtain rfl:=Option.some.inj H;obtain ⟨i05,hi05,_,hsz5,_⟩:=info_parts info5;obtain ⟨hcut5,hA5,hC5⟩:=print_take_of (P:=Try.prog) (Value.int .u8) 0 25 5 .i64 Try.underlying25 hi05 hsz5 A0 c0 l0 (ji2) (zD) (zD) HC0.out;have HR360:=zo (Kd.C_of_reads (h1:=fun _=>rfl) (hA5 _ (Kd.reads_of_C HR0.out)));have HC360:=zo hC5;clear hA5 hC5 hi05 hsz5;have HSL5:=zo (show (l0.take ((ji2) : Int).toNat).length=(ji2).toNat from (by rw [List.length_take];have h_ : ((ji2) : Int)≤(l0.length : Int):=zD;omega))
 go_enter Try.func10,Try.ntmps10
 go_wp2_with (first|((with_reducible refine gate_dst (N:=9) rfl ?_);refine box_event ?hg (N:=9) ?hd (cs:=#[.slice A0 (l0.take ((ji2) : Int).toNat).length c0]) (t:=71) ?hr ?_;(case hd=>rfl);(case hg=>rfl);(case hr=>first|(go_simp;done)|(go_simp;rfl));intro gb361 hg w6 hbox hb;replace HB:=zo (below_step (zW HB) hb);have BK361:=zo hbox;have GW361:=zo ((by rw [hg];exact (below_size (by repeat (first|(with_reducible first|exact HBW.out|apply below_alloc|apply pw_below_drewN|apply below_drew1)|exact HBW.out))) : w.heap.size≤gb361));have GE361:=zo ((Nat.le_trans HW0.out (by rw [hg];exact (below_size (by repeat (first|(with_reducible first|exact HBW.out|apply below_alloc|apply pw_below_drewN|apply below_drew1)|exact HBW.out))) : w.heap.size≤gb361) : w0.heap.size≤gb361));replace HBW:=zo (below_step HBW.out hb);clear hb hbox hg))
 go_ret
 exact ⟨_,rfl,(show IsS71 w0 _ gb361 (l0.take ((ji2) : Int).toNat) from ⟨_,_,zB BK361,GE361.out,⟨HR360.out,HC360.out⟩⟩),by repeat (first|(with_reducible first|exact HB.out|apply below_alloc|apply pw_below_drewN|apply below_drew1|refine below_set ?_ GE361.out)|exact HB.out),by repeat (first|(with_reducible first|exact HBW.out|apply below_alloc|apply pw_below_drewN|apply below_drew1|refine below_set ?_ GW361.out)|exact HBW.out),GW361.out⟩

def soundservicemade_Dice_Next.f (s0_0 : List Int) (a1 : Int) : Option (Int×List Int):=if (s0_0.length : Int)=0 then some (0,s0_0) else if a1≤1 then some (0,s0_0) else some (Int.tmod (wrap64 (rd s0_0 0)) a1,s0_0.drop 1)
set_option maxHeartbeats 8000000 in
set_option maxRecDepth 100000 in
theorem soundservicemade_Dice_Next.calls (g : Nat) (s0_0 : List Int) (a1 : Int) (r1 : Int) (r2 : List Int) (w0 w : World) (hI : IsS71 w0 w g s0_0) (hB : Below w0.heap.size w0 w) (h : soundservicemade_Dice_Next.f s0_0 a1=some (r1,r2)) :
  Calls Try.prog 11 #[.pointer (some ⟨g,0,none⟩),.int .i64 a1] w fun e w'=>e = .returned (.int .i64 r1)∧IsS71 w0 w' g r2∧Below w0.heap.size w0 w'∧KeepBut w w' g none:=by
 obtain ⟨A0,c0,hb,hg,hr,hle⟩:=hI;have hcell : w.cell? ⟨g,0,none⟩=some (.slice A0 s0_0.length c0):=(blk_cell hb 0).trans rfl;have hfz : w.frozen? ⟨g,0,none⟩=false:=blk_frozen hb 0;unfold soundservicemade_Dice_Next.f at h
 by_cases c1 : (s0_0.length : Int)=0
 ·rw [if_pos c1] at h;simp only [Option.some.injEq,Prod.mk.injEq] at h;obtain ⟨rfl,rfl⟩:=h;have e1 : ((s0_0.length : Int) == 0)=true:=by simp [c1]
  clear c1
  go_enter Try.func11,Try.ntmps11
  go_wp2
  go_ret
  exact ⟨rfl,⟨A0,c0,hb,hg,hr,hle⟩,hB,KeepBut.refl w g none⟩
 rw [if_neg c1] at h;have e1 : ((s0_0.length : Int) == 0)=false:=by simpa using c1
 by_cases c2 : a1≤1
 ·rw [if_pos c2] at h;simp only [Option.some.injEq,Prod.mk.injEq] at h;obtain ⟨rfl,rfl⟩:=h;have e2 : decide (a1≤1)=true:=decide_eq_true c2;clear c1 c2
  go_enter Try.func11,Try.ntmps11
  go_wp2
  go_ret
  exact ⟨rfl,⟨A0,c0,hb,hg,hr,hle⟩,hB,KeepBut.refl w g none⟩
 rw [if_neg c2] at h;simp only [Option.some.injEq,Prod.mk.injEq] at h;obtain ⟨rfl,rfl⟩:=h;have e2 : decide (a1≤1)=false:=decide_eq_false c2;have hpos : 0<s0_0.length:=by omega
 obtain ⟨ad,eA,hc0⟩:=Kd.at_int hr 0 (by omega) (by omega);subst eA;have hc : w.cell? (ad.add 0)=some (.int .u8 (rd s0_0 0)):=(hB.cell (World.block_lt_of_cell? w0 _ hc0)).trans hc0;obtain ⟨i0,hi0,_,hsz,_⟩:=info_parts info5;have hsl:=cut_from (P:=Try.prog) 25 5 .i64 Try.underlying25 hi0 1 hsz (some ad) s0_0.length c0 1 (by omega) (by omega)
 have hc1 : w.cell? ad=some (.int .u8 (rd s0_0 0)):=by
  have h_:=hc
  simpa [Addr.add] using h_
 obtain ⟨A',hA'⟩ : ∃ A' : Option Addr,A'=(if c0=Int.toNat 1 then some ad else Option.map (fun x=>x.add (Int.toNat 1*1)) (some ad)):=⟨_,rfl⟩;rw [← hA'] at hsl
 have hnew : Kd.C (Kd.int .u8) w0 A' s0_0.tail.length s0_0.tail:=by
  refine Kd.C_of_reads (d:=(0 : Int)) (h1:=fun _=>rfl) ⟨rfl,?_,fun hn=>?_⟩
  ·have:=hr.2.1;rw [List.length_tail];omega
  ·rw [List.length_tail] at hn;have hro:=Kd.reads_of_C (enc:=Value.int .u8) (d:=(0 : Int)) (h1:=fun _=>rfl) hr;obtain ⟨ad',e',hcs⟩:=hro.2.2 hpos;injection e' with e';subst e';refine ⟨ad.add 1,?_,fun j hj=>?_⟩
   ·rw [hA',if_neg (by omega)];rfl
   ·have h_:=hcs (1+j) (by rw [List.length_tail] at hj;omega);rw [Addr.add_add];rw [h_]
    congr 2
    rw [← List.drop_one,List.getD_eq_getElem?_getD,List.getD_eq_getElem?_getD,List.getElem?_drop]
 have hA:=zo hnew;have hL:=zo hle;have hr2:=zo hr;have hb2:=zo hb;have hlt0 : decide ((0 : Int)<(s0_0.length : Int))=true:=decide_eq_true (by omega);have hlt1 : decide (0<s0_0.length)=true:=decide_eq_true hpos;clear c1 hc0 hr hc hA' hb hi0 hsz hnew hle
 go_enter Try.func11,Try.ntmps11
 go_wp2
 go_ret
 refine ⟨rfl,⟨A',c0 - 1,?_,hg,hA.out,?_⟩,below_set hB hg,KeepBut.set_ (KeepBut.refl w g none) _ _⟩
 ·have h_:=blk_set hb2.out 0 (Value.slice A' (s0_0.length - 1) (c0 - 1));rw [List.length_tail]
  simpa using h_
 ·have:=hL.out;rw [List.length_tail];omega

def soundservicemade_Dice_Sample.f (s0_0 : List Int) : Option (Int×List Int):=(soundservicemade_Dice_Next.f s0_0 8).bind fun bt362=>(if bt362.1=0 then (some (0,bt362.2)) else (if bt362.1=1 then (some (8388607,bt362.2)) else (if bt362.1=2 then (some ((-8388608),bt362.2)) else (if bt362.1=3 then ((soundservicemade_Dice_Next.f bt362.2 256).bind fun bt364=>(some (wrap32 ((wrap32 (bt364.1)) - 128),bt364.2))) else ((soundservicemade_Dice_Next.f bt362.2 256).bind fun bt366=>((soundservicemade_Dice_Next.f bt366.2 256).bind fun bt368=>((soundservicemade_Dice_Next.f bt368.2 256).bind fun bt370=>(some (wrap32 ((wrap32 ((wrap32 ((wrap32 ((wrap32 (bt366.1))*65536)) - 8388608))+(wrap32 ((wrap32 (bt368.1))*256))))+(wrap32 (bt370.1))),bt370.2)))))))))
set_option maxHeartbeats 8000000 in
set_option maxRecDepth 100000 in
theorem soundservicemade_Dice_Sample.calls (g : Nat) (s0_0 : List Int) (r1 : Int) (r2 : List Int) (w0 w : World) (hI : IsS71 w0 w g s0_0) (hB : Below w0.heap.size w0 w) (h : soundservicemade_Dice_Sample.f s0_0=some (r1,r2)) :
  Calls Try.prog 46 #[.pointer (some ⟨g,0,none⟩)] w fun e w'=>e = .returned (.int .i32 r1)∧IsS71 w0 w' g r2∧Below w0.heap.size w0 w'∧KeepBut w w' g none:=by
 have HGT:=zo (IsS71.lt hI);have HI0:=zo hI;have HK:=zo (KeepBut.refl w g none);have HL:=zo hB.size;clear hI;have HW0:=zo hB.size;have HB:=zo hB;clear hB;have H:=h;unfold soundservicemade_Dice_Sample.f at H;clear h;replace H:=Option.bind_eq_some_iff.mp H;obtain ⟨⟨t362,t363⟩,A20,H⟩:=H
 try dsimp only at H
 have A2:=zo A20;clear A20
 by_cases c3 : t362=0
 ·rw [if_pos c3] at H;have c3b0 : (t362 == 0)=true:=beq_iff_eq.mpr c3;have c3b1 : (t362 != 0)=false:=bne_eq_false_iff_eq.mpr c3;clear c3;simp only [Option.some.injEq,Prod.mk.injEq] at H;obtain ⟨rfl,rfl⟩:=H
  go_enter Try.func46,Try.ntmps46
  go_wp2_with (first|((with_reducible refine gate_callee (f:=11) rfl ?_);refine goesL_ (some 4) rfl rfl Try.func11 zk rfl #[.pointer (some ⟨g,0,none⟩),.int .i64 8] rfl zA ?_;(with_reducible refine (soundservicemade_Dice_Next.calls g s0_0 8 t362 t363 w0 _ ?side1 ?side2 A2.out).mono ?_);(case side1=>exact zJ HI0);(case side2=>exact zI HB HI0);rintro e w4 ⟨rfl,hi,hb,hk⟩;refine ⟨_,rfl,?_⟩;replace HK:=zo (KeepBut.trans (zK HK) hk (.inl rfl));replace HB:=zo hb;replace HI0:=zo hi;(try clear hb);(try clear hk);(try clear hi)))
  go_ret
  exact ⟨zX,by repeat (first|(with_reducible first|exact HI0.out|apply IsS71.alloc|apply IsS71.drewN|apply IsS71.drew|apply IsS71.set_0)|exact HI0.out),by repeat (first|(with_reducible first|exact HB.out|apply below_alloc|apply pw_below_drewN|apply below_drew1|refine below_set ?_ (IsS71.ge HI0.out))|exact HB.out),zK HK⟩
 rw [if_neg c3] at H;have c3b0 : (t362 == 0)=false:=beq_eq_false_iff_ne.mpr c3;have c3b1 : (t362 != 0)=true:=bne_iff_ne.mpr c3
 by_cases c5 : t362=1
 ·rw [if_pos c5] at H;have c5b0 : (t362 == 1)=true:=beq_iff_eq.mpr c5;have c5b1 : (t362 != 1)=false:=bne_eq_false_iff_eq.mpr c5;clear c5;simp only [Option.some.injEq,Prod.mk.injEq] at H;obtain ⟨rfl,rfl⟩:=H
  go_enter Try.func46,Try.ntmps46
  go_wp2_with (first|((with_reducible refine gate_callee (f:=11) rfl ?_);refine goesL_ (some 4) rfl rfl Try.func11 zk rfl #[.pointer (some ⟨g,0,none⟩),.int .i64 8] rfl zA ?_;(with_reducible refine (soundservicemade_Dice_Next.calls g s0_0 8 t362 t363 w0 _ ?side1 ?side2 A2.out).mono ?_);(case side1=>exact zJ HI0);(case side2=>exact zI HB HI0);rintro e w6 ⟨rfl,hi,hb,hk⟩;refine ⟨_,rfl,?_⟩;replace HK:=zo (KeepBut.trans (zK HK) hk (.inl rfl));replace HB:=zo hb;replace HI0:=zo hi;(try clear hb);(try clear hk);(try clear hi)))
  go_ret
  exact ⟨zX,by repeat (first|(with_reducible first|exact HI0.out|apply IsS71.alloc|apply IsS71.drewN|apply IsS71.drew|apply IsS71.set_0)|exact HI0.out),by repeat (first|(with_reducible first|exact HB.out|apply below_alloc|apply pw_below_drewN|apply below_drew1|refine below_set ?_ (IsS71.ge HI0.out))|exact HB.out),zK HK⟩
 rw [if_neg c5] at H;have c5b0 : (t362 == 1)=false:=beq_eq_false_iff_ne.mpr c5;have c5b1 : (t362 != 1)=true:=bne_iff_ne.mpr c5
 by_cases c7 : t362=2
 ·rw [if_pos c7] at H;have c7b0 : (t362 == 2)=true:=beq_iff_eq.mpr c7;have c7b1 : (t362 != 2)=false:=bne_eq_false_iff_eq.mpr c7;clear c7;simp only [Option.some.injEq,Prod.mk.injEq] at H;obtain ⟨rfl,rfl⟩:=H
  go_enter Try.func46,Try.ntmps46
  go_wp2_with (first|((with_reducible refine gate_callee (f:=11) rfl ?_);refine goesL_ (some 4) rfl rfl Try.func11 zk rfl #[.pointer (some ⟨g,0,none⟩),.int .i64 8] rfl zA ?_;(with_reducible refine (soundservicemade_Dice_Next.calls g s0_0 8 t362 t363 w0 _ ?side1 ?side2 A2.out).mono ?_);(case side1=>exact zJ HI0);(case side2=>exact zI HB HI0);rintro e w8 ⟨rfl,hi,hb,hk⟩;refine ⟨_,rfl,?_⟩;replace HK:=zo (KeepBut.trans (zK HK) hk (.inl rfl));replace HB:=zo hb;replace HI0:=zo hi;(try clear hb);(try clear hk);(try clear hi)))
  go_ret
  exact ⟨zX,by repeat (first|(with_reducible first|exact HI0.out|apply IsS71.alloc|apply IsS71.drewN|apply IsS71.drew|apply IsS71.set_0)|exact HI0.out),by repeat (first|(with_reducible first|exact HB.out|apply below_alloc|apply pw_below_drewN|apply below_drew1|refine below_set ?_ (IsS71.ge HI0.out))|exact HB.out),zK HK⟩
 rw [if_neg c7] at H;have c7b0 : (t362 == 2)=false:=beq_eq_false_iff_ne.mpr c7;have c7b1 : (t362 != 2)=true:=bne_iff_ne.mpr c7
 by_cases c9 : t362=3
 ·rw [if_pos c9] at H;have c9b0 : (t362 == 3)=true:=beq_iff_eq.mpr c9;have c9b1 : (t362 != 3)=false:=bne_eq_false_iff_eq.mpr c9;clear c9;replace H:=Option.bind_eq_some_iff.mp H;obtain ⟨⟨t364,t365⟩,A100,H⟩:=H
  try dsimp only at H
  have A10:=zo A100;clear A100;simp only [Option.some.injEq,Prod.mk.injEq] at H;obtain ⟨rfl,rfl⟩:=H
  go_enter Try.func46,Try.ntmps46
  go_wp2_with (first|((with_reducible refine gate_callee (f:=11) rfl ?_);refine goesL_ (some 4) rfl rfl Try.func11 zk rfl #[.pointer (some ⟨g,0,none⟩),.int .i64 8] rfl zA ?_;(with_reducible refine (soundservicemade_Dice_Next.calls g s0_0 8 t362 t363 w0 _ ?side1 ?side2 A2.out).mono ?_);(case side1=>exact zJ HI0);(case side2=>exact zI HB HI0);rintro e w11 ⟨rfl,hi,hb,hk⟩;refine ⟨_,rfl,?_⟩;replace HK:=zo (KeepBut.trans (zK HK) hk (.inl rfl));replace HB:=zo hb;replace HI0:=zo hi;(try clear hb);(try clear hk);(try clear hi))|((with_reducible refine gate_callee (f:=11) rfl ?_);refine goesL_ (some 14) rfl rfl Try.func11 zk rfl #[.pointer (some ⟨g,0,none⟩),.int .i64 256] rfl zA ?_;(with_reducible refine (soundservicemade_Dice_Next.calls g t363 256 t364 t365 w0 _ ?side1 ?side2 A10.out).mono ?_);(case side1=>exact zJ HI0);(case side2=>exact zI HB HI0);rintro e w12 ⟨rfl,hi,hb,hk⟩;refine ⟨_,rfl,?_⟩;replace HK:=zo (KeepBut.trans (zK HK) hk (.inl rfl));replace HB:=zo hb;replace HI0:=zo hi;(try clear hb);(try clear hk);(try clear hi)))
  go_ret
  exact ⟨zX,by repeat (first|(with_reducible first|exact HI0.out|apply IsS71.alloc|apply IsS71.drewN|apply IsS71.drew|apply IsS71.set_0)|exact HI0.out),by repeat (first|(with_reducible first|exact HB.out|apply below_alloc|apply pw_below_drewN|apply below_drew1|refine below_set ?_ (IsS71.ge HI0.out))|exact HB.out),zK HK⟩
 rw [if_neg c9] at H;have c9b0 : (t362 == 3)=false:=beq_eq_false_iff_ne.mpr c9;have c9b1 : (t362 != 3)=true:=bne_iff_ne.mpr c9;replace H:=Option.bind_eq_some_iff.mp H;obtain ⟨⟨t366,t367⟩,A130,H⟩:=H
 try dsimp only at H
 have A13:=zo A130;clear A130;replace H:=Option.bind_eq_some_iff.mp H;obtain ⟨⟨t368,t369⟩,A140,H⟩:=H
 try dsimp only at H
 have A14:=zo A140;clear A140;replace H:=Option.bind_eq_some_iff.mp H;obtain ⟨⟨t370,t371⟩,A150,H⟩:=H
 try dsimp only at H
 have A15:=zo A150;clear A150;simp only [Option.some.injEq,Prod.mk.injEq] at H;obtain ⟨rfl,rfl⟩:=H
 go_enter Try.func46,Try.ntmps46
 go_wp2_with (first|((with_reducible refine gate_callee (f:=11) rfl ?_);refine goesL_ (some 4) rfl rfl Try.func11 zk rfl #[.pointer (some ⟨g,0,none⟩),.int .i64 8] rfl zA ?_;(with_reducible refine (soundservicemade_Dice_Next.calls g s0_0 8 t362 t363 w0 _ ?side1 ?side2 A2.out).mono ?_);(case side1=>exact zJ HI0);(case side2=>exact zI HB HI0);rintro e w16 ⟨rfl,hi,hb,hk⟩;refine ⟨_,rfl,?_⟩;replace HK:=zo (KeepBut.trans (zK HK) hk (.inl rfl));replace HB:=zo hb;replace HI0:=zo hi;(try clear hb);(try clear hk);(try clear hi))|((with_reducible refine gate_callee (f:=11) rfl ?_);refine goesL_ (some 18) rfl rfl Try.func11 zk rfl #[.pointer (some ⟨g,0,none⟩),.int .i64 256] rfl zA ?_;(with_reducible refine (soundservicemade_Dice_Next.calls g t363 256 t366 t367 w0 _ ?side1 ?side2 A13.out).mono ?_);(case side1=>exact zJ HI0);(case side2=>exact zI HB HI0);rintro e w17 ⟨rfl,hi,hb,hk⟩;refine ⟨_,rfl,?_⟩;replace HK:=zo (KeepBut.trans (zK HK) hk (.inl rfl));replace HB:=zo hb;replace HI0:=zo hi;(try clear hb);(try clear hk);(try clear hi))|((with_reducible refine gate_callee (f:=11) rfl ?_);refine goesL_ (some 23) rfl rfl Try.func11 zk rfl #[.pointer (some ⟨g,0,none⟩),.int .i64 256] rfl zA ?_;(with_reducible refine (soundservicemade_Dice_Next.calls g t367 256 t368 t369 w0 _ ?side1 ?side2 A14.out).mono ?_);(case side1=>exact zJ HI0);(case side2=>exact zI HB HI0);rintro e w18 ⟨rfl,hi,hb,hk⟩;refine ⟨_,rfl,?_⟩;replace HK:=zo (KeepBut.trans (zK HK) hk (.inl rfl));replace HB:=zo hb;replace HI0:=zo hi;(try clear hb);(try clear hk);(try clear hi))|((with_reducible refine gate_callee (f:=11) rfl ?_);refine goesL_ (some 28) rfl rfl Try.func11 zk rfl #[.pointer (some ⟨g,0,none⟩),.int .i64 256] rfl zA ?_;(with_reducible refine (soundservicemade_Dice_Next.calls g t369 256 t370 t371 w0 _ ?side1 ?side2 A15.out).mono ?_);(case side1=>exact zJ HI0);(case side2=>exact zI HB HI0);rintro e w19 ⟨rfl,hi,hb,hk⟩;refine ⟨_,rfl,?_⟩;replace HK:=zo (KeepBut.trans (zK HK) hk (.inl rfl));replace HB:=zo hb;replace HI0:=zo hi;(try clear hb);(try clear hk);(try clear hi)))
 go_ret
 exact ⟨zX,by repeat (first|(with_reducible first|exact HI0.out|apply IsS71.alloc|apply IsS71.drewN|apply IsS71.drew|apply IsS71.set_0)|exact HI0.out),by repeat (first|(with_reducible first|exact HB.out|apply below_alloc|apply pw_below_drewN|apply below_drew1|refine below_set ?_ (IsS71.ge HI0.out))|exact HB.out),zK HK⟩

def soundservicemade_Block.l0 : Nat→Int→Int→Int→List Int→Int→List Int→Option (Int×List Int×List Int)
 | 0,_,_,_,_,_,_=>none
 | k+1,x1,x2,x8,x1000,x374000,x374001=>if x8<(wrap64 (x1*x2)) then ((soundservicemade_Dice_Sample.f x1000).bind fun bt374=>(if x374001.length<35184372088832 then (soundservicemade_Block.l0 k x1 x2 (wrap64 (x8+1)) bt374.2 x374000 (x374001 ++ [bt374.1])) else (none))) else (some (x374000,x374001,x1000))
def soundservicemade_Block.f (k : Nat) (s0_0 : List Int) (a1 : Int) (a2 : Int) : Option (Int×List Int×List Int):=soundservicemade_Block.l0 k a1 a2 0 s0_0 a1 ([] : List Int)
theorem soundservicemade_Block.mono_l : ∀ k,(∀ y0 y1 y2 y3 y4 y5,LeO (soundservicemade_Block.l0 k y0 y1 y2 y3 y4 y5) (soundservicemade_Block.l0 (k+1) y0 y1 y2 y3 y4 y5))
 | 0=>fun _ _ _ _ _ _ r h=>by simp [soundservicemade_Block.l0] at h
 | k+1=>by
  have ih0:=soundservicemade_Block.mono_l k
  ·intro y0 y1 y2 y3 y4 y5;unfold soundservicemade_Block.l0
   repeat' first
   | (with_reducible exact ih0 _ _ _ _ _ _)
   | (with_reducible exact LeO.refl _)
   | (with_reducible exact LeO.none _)
   | (with_reducible refine LeO.ite ?_ ?_)
   | (with_reducible refine LeO.bind ?_ (fun _=>?_))
   | exact ih0 _ _ _ _ _ _
   | exact LeO.none _
   | refine LeO.ite ?_ ?_
   | refine LeO.bind ?_ (fun _=>?_)
theorem soundservicemade_Block.mono : ∀ a0 a1 a2 k,LeO (soundservicemade_Block.f k a0 a1 a2) (soundservicemade_Block.f (k+1) a0 a1 a2):=by
 intro a0 a1 a2 k;have ih0:=soundservicemade_Block.mono_l k;unfold soundservicemade_Block.f
 repeat' first
   | (with_reducible exact ih0 _ _ _ _ _ _)
   | (with_reducible exact LeO.refl _)
   | (with_reducible exact LeO.none _)
   | (with_reducible refine LeO.ite ?_ ?_)
   | (with_reducible refine LeO.bind ?_ (fun _=>?_))
   | exact ih0 _ _ _ _ _ _
   | exact LeO.none _
   | refine LeO.ite ?_ ?_
   | refine LeO.bind ?_ (fun _=>?_)
def soundservicemade_Block.T5 : Bool×List (List Nat×List Nat):=(true,[([],[]),([0],[0]),([],[]),([2],[2]),([3],[3]),([1,4,3],[1,4]),([0,1,2,3,4,5],[]),([6,5,5,0,1,2,3,4,5],[5,6])])
def soundservicemade_Block.B5 : List Nat:=[0,1,0,4,12,31,63,127]
theorem soundservicemade_Block.tab5 : rtab .any (opsOf Try.f27 5)=soundservicemade_Block.T5:=by kernel_rfl
theorem soundservicemade_Block.bits5 : waitsOk soundservicemade_Block.T5.2 soundservicemade_Block.B5=true:=by kernel_rfl
set_option maxHeartbeats 8000000 in
set_option maxRecDepth 100000 in
theorem soundservicemade_Block.calls (k : Nat) (g : Nat) (s0_0 : List Int) (a1 : Int) (a2 : Int) (r1 : Int) (r2 : List Int) (r3 : List Int) (w0 w : World) (hI : IsS71 w0 w g s0_0) (hB : Below w0.heap.size w0 w) (h : soundservicemade_Block.f k s0_0 a1 a2=some (r1,r2,r3)) :
  Calls Try.prog 27 #[.pointer (some ⟨g,0,none⟩),.int .i64 a1,.int .i64 a2] w fun e w'=>∃ v1_ : Value,e = .returned (.agg #[.int .i64 r1,v1_])∧Kd.R (Kd.int .i32) 21 w' w.heap.size (fun _=>True) v1_ r2∧IsS71 w0 w' g r3∧Below w0.heap.size w0 w'∧KeepBut w w' g none:=by
 have hu43:=Try.underlying43;have HGT:=zo (IsS71.lt hI);have HI0:=zo hI;have HK:=zo (KeepBut.refl w g none);have HL:=zo hB.size;clear hI;have HW0:=zo hB.size;have HB:=zo hB;clear hB;have H:=h;unfold soundservicemade_Block.f at H;clear h;have H':=zo H;clear H
 go_enter Try.func27,Try.ntmps27
 go_wp2_with (first|((with_reducible refine gate_dst (N:=6) rfl ?_);refine box_event ?hg (N:=6) ?hd (cs:=#[.int .i64 0,.slice none 0 0]) (t:=43) ?hr ?_;(case hd=>rfl);(case hg=>rfl);(case hr=>first|(go_simp;done)|(go_simp;rfl));intro gb372 hg w4 hbox hb;replace HB:=zo (below_step (zI HB HI0) hb);replace HI0:=zo (IsS71.below (zJ HI0) hb);have BK372:=zo hbox;have GW372:=zo ((by rw [hg];exact (keep_size (w:=w) (g:=g) (row:=none) (zK HK)) : w.heap.size≤gb372));have GE372:=zo ((Nat.le_trans HW0.out (by rw [hg];exact (keep_size (w:=w) (g:=g) (row:=none) (zK HK)) : w.heap.size≤gb372) : w0.heap.size≤gb372));have NB0_372:=zo ((by rw [hg];exact Nat.ne_of_lt (Nat.lt_of_lt_of_le HGT.out (show KeepBut w _ g none from zK HK).1) : g≠gb372));have NB372_0:=zo ((by rw [hg];exact Nat.ne_of_gt (Nat.lt_of_lt_of_le HGT.out (show KeepBut w _ g none from zK HK).1) : gb372≠g));replace HK:=zo (KeepBut.trans (zK HK) (KeepBut.of_below hb g none) (.inl rfl));clear hb hbox hg)|((with_reducible refine gate_dst (N:=7) rfl ?_);refine box_event ?hg (N:=7) ?hd (cs:=#[.int .i64 0,.slice none 0 0]) (t:=43) ?hr ?_;(case hd=>rfl);(case hg=>rfl);(case hr=>first|(go_simp;done)|(go_simp;rfl));intro gb373 hg w5 hbox hb;replace HB:=zo (below_step (zI HB HI0) hb);replace HI0:=zo (IsS71.below (zJ HI0) hb);have BK373:=zo hbox;have GW373:=zo ((by rw [hg];exact (keep_size (w:=w) (g:=g) (row:=none) (zK HK)) : w.heap.size≤gb373));have GE373:=zo ((Nat.le_trans HW0.out (by rw [hg];exact (keep_size (w:=w) (g:=g) (row:=none) (zK HK)) : w.heap.size≤gb373) : w0.heap.size≤gb373));have NB372_373:=zo (zL hg BK372);have NB373_372:=zo (zG hg BK372);replace BK372:=zo (blk_below (zB BK372) hb);have NB0_373:=zo ((by rw [hg];exact Nat.ne_of_lt (Nat.lt_of_lt_of_le HGT.out (show KeepBut w _ g none from zK HK).1) : g≠gb373));have NB373_0:=zo ((by rw [hg];exact Nat.ne_of_gt (Nat.lt_of_lt_of_le HGT.out (show KeepBut w _ g none from zK HK).1) : gb373≠g));replace HK:=zo (KeepBut.trans (zK HK) (KeepBut.of_below hb g none) (.inl rfl));clear hb hbox hg;have hnb6:=NB373_372.out;have hnc6:=NB372_373.out;have hnb7:=NB373_0.out;have hnc7:=NB0_373.out;obtain ⟨hcz8_0,hfz8_0,hcz8_1,hfz8_1⟩:=zn2 BK373))
 go_loopg [8] k (fun kq v8 w'=>∃ (x8_1 : Int) (x1000_1 : List Int) (x374001_1 : List Int) (u374001 : Value),v8 = .int .i64 x8_1∧Aside0 (soundservicemade_Block.l0 kq a1 a2 x8_1 x1000_1 a1 x374001_1=some (r1,r2,r3))∧Aside0 (kq≤k)∧Aside0 (Kd.R (Kd.int .i32) 21 w' w.heap.size (fun _=>True) u374001 x374001_1)∧Aside0 (w'.heap[gb372]?=some (.cells #[.int .i64 0,(.slice none 0 0)] 43 (0,0)))∧Aside0 (w'.heap[gb373]?=some (.cells #[.int .i64 a1,u374001] 43 (0,0)))∧Aside0 (IsS71 w0 w' g x1000_1)∧Aside0 (KeepBut w w' g none)∧Aside0 (Below w0.heap.size w0 w'))
 case atStart=>exact ⟨(0),(s0_0),(([] : List Int)),(.slice none 0 0),zE,H',⟨Nat.le_refl _⟩,⟨by first|exact Kd.R_nil _ _ _ _ _|exact Kd.N_nil _ _ _ _ _|exact Kd.V_nil _ _ _ _ _|exact Kd.Q_nil _ _ _ _ _|exact Kd.S_nil _ _ _ _ _⟩,⟨zB BK372⟩,⟨zB BK373⟩,⟨zJ HI0⟩,⟨zK HK⟩,⟨zI HB HI0⟩⟩
 case round=>
  clear H'
  try clear c2
  try clear p2
  try clear c6
  try clear c7
  obtain ⟨x8_1,x1000_1,x374001_1,u374001,rfl,HA,HK1,HO_374001,BK372,BK373,HI0,HK,HB⟩:=hrel
  cases gk with
  | zero=>exact absurd HA.out (by simp [soundservicemade_Block.l0])
  | succ k1=>
   have H:=HA.out;clear HA;simp only [soundservicemade_Block.l0] at H
   by_cases c9 : x8_1<(wrap64 (a1*a2))
   rotate_left
   ·rw [if_neg c9] at H;have c9b0:=decide_eq_false c9;clear c9;simp only [Option.some.injEq,Prod.mk.injEq] at H;obtain ⟨rfl,rfl,rfl⟩:=H;have hnb17:=NB373_372.out;have hnc17:=NB372_373.out;have hnb18:=NB373_0.out;have hnc18:=NB0_373.out;obtain ⟨hcz19_0,hfz19_0,hcz19_1,hfz19_1⟩:=zn2 BK373;have hnb20:=NB372_0.out;have hnc20:=NB0_372.out;obtain ⟨hcz21_0,hfz21_0,hcz21_1,hfz21_1⟩:=zn2 BK372;obtain ⟨Ao22,co22,eo22⟩:=Kd.R_slice HO_374001.out;subst eo22
    go_wp2
    refine bodyPost_ret (results_cell_row rfl _ _ gb372 43 #[.int .i64 a1,.slice Ao22 x374001_1.length co22] (0,0) _ rfl (zB BK372) Try.underlying43 rfl zk) rfl ?_;exact ⟨_,zX,by (with_reducible repeat (first|apply Kd.R_alloc|apply Kd.R_drewN|apply Kd.R_drew));exact Kd.R_mono (Kd.R_far (p:=⟨gb372,1,none⟩) (Kd.R_far (p:=⟨gb372,0,none⟩) (Kd.R_types HO_374001.out BK372.out (by decide)) (fun _ hk=>hk.2) (.int .i64 a1)) (fun _ hk=>hk.2) (.slice Ao22 x374001_1.length co22)) (fun _ hk=>trivial),by repeat (first|(with_reducible first|exact HI0.out|apply IsS71.alloc|apply IsS71.drewN|apply IsS71.drew|apply IsS71.set_0|refine IsS71.far ?_ NB0_372.out _|refine IsS71.far ?_ NB0_373.out _)|exact HI0.out),by repeat (first|(with_reducible first|exact HB.out|apply below_alloc|apply pw_below_drewN|apply below_drew1|refine below_set ?_ (IsS71.ge HI0.out)|refine below_set ?_ GE372.out|refine below_set ?_ GE373.out)|exact HB.out),zK HK⟩
   rw [if_pos c9] at H;have c9b0:=decide_eq_true c9;clear c9;replace H:=Option.bind_eq_some_iff.mp H;obtain ⟨⟨t374,t375⟩,A100,H⟩:=H
   try dsimp only at H
   have A10:=zo A100;clear A100
   by_cases c11 : x374001_1.length<35184372088832
   rotate_left
   ·rw [if_neg c11] at H;exact absurd H (by simp)
   rw [if_pos c11] at H;have LMc11:=zo c11;clear c11;obtain ⟨y376,hy376⟩ : ∃ y_ : List Int,y_=(x374001_1 ++ [t374]):=⟨_,rfl⟩;replace H : (soundservicemade_Block.l0 k1 a1 a2 (wrap64 (x8_1+1)) t375 a1 y376)=some (r1,r2,r3):=by first|(rw [hy376];with_reducible exact H)|(have H2_:=(Option.bind_some _ _).symm.trans H;rw [hy376];with_reducible exact H2_)|(have H2_:=(Option.bind_some _ _).symm.trans H;with_reducible exact H2_)|with_reducible exact H|(rw [hy376];exact H)|exact H
   have Ny376:=zo hy376;clear hy376;have H':=zo H;clear H
   try go_wp2
   have n0_:=zo (Kd.R_drew HO_374001.out);have n1_:=zo (blk_drew BK372.out);have n2_:=zo (blk_drew BK373.out);have n3_:=zo (IsS71.drew HI0.out);have n4_:=zo (keep_drew HK.out);have n5_:=zo (below_drew1 HB.out);clear HO_374001;clear BK372;clear BK373;clear HI0;clear HK;clear HB;have HO_374001:=n0_;have BK372:=n1_;have BK373:=n2_;have HI0:=n3_;have HK:=n4_;have HB:=n5_;clear n0_ n1_ n2_ n3_ n4_ n5_;refine start_ (n:=8) (S:=fun w'=>w'.cell? ⟨gb373,0,none⟩=some (.int .i64 a1)∧w'.cell? ⟨gb373,1,none⟩=some (u374001)) (ds:=[7]) #[false,false,false,false,false,false,false,false] zk rfl rfl ⟨(blk_cell BK373.out 0).trans rfl,(blk_cell BK373.out 1).trans rfl⟩ (fun hHeld=>?_);refine with_tabW soundservicemade_Block.tab5 soundservicemade_Block.bits5 (fun HT_ HW_=>?_);generalize wr.drew=w12 at HO_374001 BK372 BK373 HI0 HK HB hHeld ⊢;refine pure_ (i:=0) (N:=some 18) (v:=?_) (a':=?_) #[true,false,false,false,false,false,false,false] rfl rfl (any_of HT_.out zk) (fun _ _ _ h=>h) (Or.inl ⟨by rfl,?_⟩) ?_ ?_;rotate_left
   ·intro w'
    go_simp
    with_reducible rfl
   rotate_left
   ·simp only [Act.put,List.setIfInBounds_toArray,List.set_cons_zero,List.set_cons_succ,i64_w,i32_w];rfl
   refine pure_ (i:=2) (N:=some 20) (v:=?_) (a':=?_) #[true,false,true,false,false,false,false,false] rfl rfl (any_of HT_.out zk) (fun _ _ _ h=>h) (Or.inl ⟨by rfl,?_⟩) ?_ ?_;rotate_left
   ·intro w'
    go_simp
    with_reducible rfl
   rotate_left
   ·simp only [Act.put,List.setIfInBounds_toArray,List.set_cons_zero,List.set_cons_succ,i64_w,i32_w];rfl
   refine take_ (i:=1) (N:=some 19) (v:=?_) (a':=?_) #[true,true,true,false,false,false,false,false] rfl rfl (take_ofW HT_.out HW_.out zk) (fun _ _ _ h=>h) (Or.inl ⟨by rfl,?_⟩) hHeld ?_ ?_;rotate_left
   ·rintro w' ⟨s0,s1⟩
    go_simp
    with_reducible rfl
   rotate_left
   ·simp only [Act.put,List.setIfInBounds_toArray,List.set_cons_zero,List.set_cons_succ,i64_w,i32_w];rfl
   refine one_ (i:=3) (N:=some 21) #[true,true,true,true,false,false,false,false] rfl rfl (one_of HT_.out zk) (by decide) (fun K hK=>?_);refine goes_ Try.func46 zk rfl #[.pointer (some ⟨g,0,none⟩)] (by rfl) rfl rfl zA ?_
   with_reducible refine (soundservicemade_Dice_Sample.calls g x1000_1 t374 t375 w0 _ ?side1 ?side2 A10.out).mono ?_
   (case side1=>exact zJ HI0);(case side2=>exact zI HB HI0);rintro e w13 ⟨rfl,hi,hb,hk⟩;refine ⟨_,rfl,?_⟩;have n0_:=zo (Kd.R_mono (Kd.R_keep (IsS71.apart (show IsS71 w0 _ g x1000_1 from zJ HI0) (zR HO_374001) (by decide)) hk (fun _ h=>h.2)) (fun _ h=>h.1));have n1_:=zo (KeepBut.blk hk (g':=gb372) (o:=.cells #[.int .i64 0,.slice none 0 0] 43 (0,0)) (zB BK372) NB372_0.out (by simp));have n2_:=zo (KeepBut.blk hk (g':=gb373) (o:=.cells #[.int .i64 a1,u374001] 43 (0,0)) (zB BK373) NB373_0.out (by simp));have n3_:=zo (KeepBut.trans (zK HK) hk (.inl rfl));have n4_:=zo hb;have n5_:=zo hi;clear HO_374001;clear BK372;clear BK373;clear HK;clear HB;clear HI0;have HO_374001:=n0_;have BK372:=n1_;have BK373:=n2_;have HK:=n3_;have HB:=n4_;have HI0:=n5_;clear n0_ n1_ n2_ n3_ n4_ n5_;(try clear hb);(try clear hb2);(try clear hk);(try clear hi);(try clear hgw);refine hK.out _ _ ⟨(blk_cell BK373.out 0).trans rfl,(blk_cell BK373.out 1).trans rfl⟩ (fun hHeld=>?_);clear hK K;refine norm_ (a':=?_) ?_ ?_;rotate_left
   ·show Act.put _ (some 21) _=_
    simp only [Act.put,List.setIfInBounds_toArray,List.set_cons_zero,List.set_cons_succ,i64_w,i32_w];rfl
   refine one_ (i:=4) (N:=some 22) #[true,true,true,true,true,false,false,false] rfl rfl (one_of HT_.out zk) (by decide) (fun K hK=>?_);refine value_ (w1:=?_) (v:=?_) (by rfl) rfl ?_ ?_;rotate_left 2
   ·go_simp
    constructor
    ·rfl
    ·rfl
   refine hK.out _ _ ⟨(blk_cell (blk_alloc BK373.out _) 0).trans rfl,(blk_cell (blk_alloc BK373.out _) 1).trans rfl⟩ (fun hHeld=>?_);clear hK K;refine norm_ (a':=?_) ?_ ?_;rotate_left
   ·show Act.put _ (some 22) _=_
    simp only [Act.put,List.setIfInBounds_toArray,List.set_cons_zero,List.set_cons_succ,i64_w,i32_w];rfl
   refine one_ (i:=5) (N:=some 23) #[true,true,true,true,true,true,false,false] rfl rfl (one_of HT_.out zk) (by decide) (fun K hK=>?_);refine Kd.R_append_step (Kd.int .i32) w.heap.size (by rfl) (.tmp 19) (.tmp 22) 41 21 (.int .i32 0) 4 rfl Try.underlying41 info21 rfl (by decide) (by omega) u374001 x374001_1 t374 [.int .i32 t374] (fun _=>True) (fun _=>False) rfl rfl ?aP (fun _ hk=>hk.elim) ?aF ?aO (Below.refl _ _) ?aS ?aL ?_;(case aP=>exact rfl);(case aF=>exact (fun _ _=>trivial));(case aO=>exact (zR HO_374001));(case aS=>exact (keep_size (w:=w) (g:=g) (row:=none) (zK HK)));(case aL=>have:=LMc11.out;omega);intro v377 w14 ho hb hg hat;rw [← Ny376.out] at ho;have n0_:=zo (blk_grown (zB BK372) hg (Kd.R_ne HO_374001.out BK372.out (by decide)));have n1_:=zo (blk_grown (zB BK373) hg (Kd.R_ne HO_374001.out BK373.out (by decide)));have n2_:=zo (IsS71.grown (zJ HI0) hg (IsS71.own_ne HI0.out HO_374001.out (by decide)));have n3_:=zo (below_weaken (zI HB HI0) HL.out hb);have n4_:=zo (KeepBut.trans (zK HK) (KeepBut.of_grown hg g) (Kd.R_base2 HO_374001.out));have n5_:=zo ho;clear BK372;clear BK373;clear HI0;clear HB;clear HK;clear HO_374001;have BK372:=n0_;have BK373:=n1_;have HI0:=n2_;have HB:=n3_;have HK:=n4_;have HO378:=n5_;clear n0_ n1_ n2_ n3_ n4_ n5_;clear ho hb hg hat;obtain ⟨Ao15,co15,eo15⟩:=Kd.R_slice HO378.out;(first|subst eo15|(injection eo15 with f1_ f2_ f3_;have f4_:=f1_.symm;have f5_:=f3_.symm;clear f1_ f2_ f3_;subst f4_;subst f5_));refine hK.out _ _ ⟨(blk_cell BK373.out 0).trans rfl,(blk_cell BK373.out 1).trans rfl⟩ (fun hHeld=>?_);clear hK K;refine norm_ (a':=?_) ?_ ?_;rotate_left
   ·show Act.put _ (some 23) _=_
    simp only [Act.put,List.setIfInBounds_toArray,List.set_cons_zero,List.set_cons_succ,i64_w,i32_w];rfl
   refine pure_ (i:=6) (N:=some 24) (v:=?_) (a':=?_) #[true,true,true,true,true,true,true,false] rfl rfl (any_of HT_.out zk) (fun _ _ _ h=>h) (Or.inl ⟨by rfl,?_⟩) ?_ ?_;rotate_left
   ·intro w'
    go_simp
    with_reducible rfl
   rotate_left
   ·simp only [Act.put,List.setIfInBounds_toArray,List.set_cons_zero,List.set_cons_succ,i64_w,i32_w];rfl
   refine last_ (i:=7) (N:=none) #[true,true,true,true,true,true,true,true] rfl rfl (one_of HT_.out zk) (by decide) (fun K hK=>?_);have hs16:=zc BK373 1 (u374001) rfl;have hfs16:=blk_frozen BK373.out 1;have hns16_0:=NB372_373.out;have hms16_0:=NB373_372.out;refine skip_ (w1:=?_) (by rfl) rfl ?_ ?_;rotate_left
   ·go_simp
    rfl
   refine hK.out _ _ ?_;clear hK K;refine done_ (done_of HT_.out zk) ?_
   try go_wp2
   go_roundg k1
   case measure=>have:=HK1.out;omega
   case rel=>exact ⟨(wrap64 (x8_1+1)),(t375),(y376),(.slice Ao15 y376.length co15),zE,H',⟨by have:=HK1.out;omega⟩,⟨by (with_reducible repeat (first|apply Kd.R_alloc|apply Kd.R_drewN|apply Kd.R_drew));exact Kd.R_mono (Kd.R_far (p:=⟨gb373,1,none⟩) (Kd.R_types HO378.out BK373.out (by decide)) (fun _ hk=>hk.2) (.slice Ao15 y376.length co15)) (fun _ hk=>trivial)⟩,⟨zB BK372⟩,⟨zB BK373⟩,⟨zJ HI0⟩,⟨zK HK⟩,⟨zI HB HI0⟩⟩

end Go.Proofs.Ytcnmemcclhahnaa.QT
