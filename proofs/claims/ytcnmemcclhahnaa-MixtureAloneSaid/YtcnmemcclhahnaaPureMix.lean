/- Plain laws of mixtures: what the printed functions of package mixture compute, in numbers and lists. -/
import Derived.Test.YtcnmemcclhahnaaPureMatrix
import Derived.Test.YtcnmemcclhahnaaPureLimit
import Derived.Test.YtcnmemcclhahnaaQT4
import Derived.Test.YtcnmemcclhahnaaQT2
import Derived.Test.YtcnmemcclhahnaaQT6
import Derived.Test.YtcnmemcclhahnaaQT7
import Derived.Test.YtcnmemcclhahnaaQT7
import Derived.Test.YtcnmemcclhahnaaQT7
import Derived.Test.YtcnmemcclhahnaaQT9
set_option linter.unusedVariables false
set_option linter.unusedSimpArgs false
namespace Go.Proofs.Ytcnmemcclhahnaa.MixL
open Go.RowKit Go.Proofs.Ytcnmemcclhahnaa.QT Go.Proofs.Ytcnmemcclhahnaa.GainL Go.Proofs.Ytcnmemcclhahnaa.MatL Go.Proofs.YtcnmemcclhahnaaW.PrintWords Go.Proofs.YtcnmemcclhahnaaW.PrintLast

/-! ### one input -/
def InOk (x : S54) : Prop:=BlockOk x.f0.f0 x.f0.f1∧MatOk x.f1.f0 x.f1.f1 x.f1.f2∧RampOk x.f2.f0 x.f2.f1 x.f2.f2 x.f2.f3
instance (x : S54) : Decidable (InOk x):=by
  unfold InOk
  infer_instance
def nF (x : S54) : Nat:=x.f0.f1.length / x.f0.f0.toNat
/-- What a valid input adds. -/
def contrib (x : S54) : List Int:=runV x.f2.f0 x.f2.f1 x.f2.f2 x.f2.f3 x.f1.f1.toNat (appl (rowsV x.f1.f0.toNat x.f1.f1.toNat x.f1.f2) x.f1.f0.toNat (nF x) x.f0.f1)
def errOf (ch fr : Int) (x : S54) : Int:=if InOk x then (if x.f1.f0=x.f0.f0∧x.f1.f1=ch then (if (nF x : Int)>fr then 2 else 0) else 11) else 1
def passV (ch fr : Int) (x : S54) : Int×List Int×Int:=if errOf ch fr x=0 then (ch,contrib x,0) else (0,[],errOf ch fr x)
theorem nF_cast {x : S54} (h : BlockOk x.f0.f0 x.f0.f1) : (x.f0.f1.length : Int) / x.f0.f0=(nF x : Int)∧x.f0.f1.length=nF x*x.f0.f0.toNat:=by
  obtain ⟨b1,b2,b3,b4,b5⟩:=h
  obtain ⟨c,hc⟩:=Int.eq_ofNat_of_zero_le (show 0≤x.f0.f0 by omega)
  unfold nF
  rw [hc] at b3 ⊢
  rw [Int.toNat_natCast,Int.natCast_ediv]
  refine ⟨rfl,?_⟩
  have hm : x.f0.f1.length % c=0:=by
    rw [← Int.natCast_emod] at b3
    omega
  have:=Nat.div_add_mod x.f0.f1.length c
  rw [hm,Nat.add_zero,Nat.mul_comm] at this
  exact this.symm
theorem frames_ev (c : Int) (l : List Int) (hl : l.length≤4611686018427387904) (hb : BlockOk c l) : Ev (fun k=>sample_Frames.f k c l) ((l.length : Int) / c):=by
  have hv:=block_ev c l hl
  rw [decide_eq_true hb] at hv
  have h1:=hb.1
  have hq : (l.length : Int) / c≤l.length:=Int.ediv_le_self _ (by omega)
  have hq0 : 0≤(l.length : Int) / c:=Int.ediv_nonneg (by omega) (by omega)
  refine ev_head (fun k=>sample_Valid.f k c l) (fun k t=>_) (fun k=>rfl) hv ?_
  refine Ev.congr (fun k=>?_) (Ev.now _)
  rw [if_pos rfl,if_neg (by omega),w64 (by omega) (by omega)]
theorem appl_block {o n : Nat} (rows : List (List Int)) (c : Nat) (d : List Int) (hr : rows.length=o) (o1 : 1≤o) (o8 : o≤8) (hn : n≤65536) : BlockOk (o : Int) (appl rows c n d):=by
  have hl : (appl rows c n d).length=n*o:=by rw [appl_length,hr]
  refine ⟨by omega,by omega,?_,?_,allS_iff.2 (appl_range rows c n d)⟩
  · rw [← Int.natCast_emod,hl,Nat.mul_mod_left]
    rfl
  · rw [← Int.natCast_ediv,hl,Nat.mul_div_cancel n (by omega)]
    omega
theorem pass_ev (ch fr : Int) (x : S54) (h1 : x.f0.f1.length≤1000000) (h2 : x.f1.f2.length≤1000000) :
    Ev (fun k=>mixture_pass.f k x.f0.f0 x.f0.f1 x.f1.f0 x.f1.f1 x.f1.f2 x.f2.f0 x.f2.f1 x.f2.f2 x.f2.f3 ch fr) (passV ch fr x):=by
  have hv:=block_ev x.f0.f0 x.f0.f1 (by omega)
  have hm:=matvalid_ev x.f1.f0 x.f1.f1 x.f1.f2 (by omega)
  have bad : ¬ InOk x→Ev (fun k=>mixture_pass.j0 k ch fr true x.f0.f0 x.f0.f1 x.f1.f0 x.f1.f1 x.f1.f2 x.f2.f0 x.f2.f1 x.f2.f2 x.f2.f3) (passV ch fr x):=fun h=>by
    unfold passV errOf
    rw [if_neg h,if_neg (by omega)]
    refine Ev.step (f:=fun _=>some (0,[],1)) (fun k=>?_) (Ev.now _)
    rw [mixture_pass.j0,if_pos rfl]
  refine ev_head (fun k=>sample_Valid.f k x.f0.f0 x.f0.f1) (fun k t=>_) (fun k=>rfl) hv ?_
  by_cases hb : BlockOk x.f0.f0 x.f0.f1
  · rw [decide_eq_true hb]
    refine ev_head (fun k=>matrix_Valid.f k x.f1.f0 x.f1.f1 x.f1.f2) (fun k t=>_) (fun k=>by rw [if_pos rfl]) hm ?_
    by_cases hM : MatOk x.f1.f0 x.f1.f1 x.f1.f2
    · rw [decide_eq_true hM]
      by_cases hR : RampOk x.f2.f0 x.f2.f1 x.f2.f2 x.f2.f3
      · have hok : InOk x:=⟨hb,hM,hR⟩
        refine Ev.congr (f:=fun k=>mixture_pass.j0 k ch fr false x.f0.f0 x.f0.f1 x.f1.f0 x.f1.f1 x.f1.f2 x.f2.f0 x.f2.f1 x.f2.f2 x.f2.f3) (fun k=>?_) ?_
        · unfold gain_Valid.f
          rw [if_pos rfl,valid_val,Option.bind_some,Option.bind_some,decide_eq_true hR]
          rfl
        · have bad1 : errOf ch fr x=11→Ev (fun k=>mixture_pass.j1 k fr true x.f0.f0 x.f0.f1 x.f1.f0 x.f1.f1 x.f1.f2 x.f2.f0 x.f2.f1 x.f2.f2 x.f2.f3) (passV ch fr x):=fun h=>by
            unfold passV
            rw [h,if_neg (by omega)]
            refine Ev.step (f:=fun _=>some (0,[],11)) (fun k=>?_) (Ev.now _)
            rw [mixture_pass.j1,if_pos rfl]
          by_cases hi : x.f1.f0=x.f0.f0
          · by_cases ho : x.f1.f1=ch
            · refine Ev.step (f:=fun k=>mixture_pass.j1 k fr false x.f0.f0 x.f0.f1 x.f1.f0 x.f1.f1 x.f1.f2 x.f2.f0 x.f2.f1 x.f2.f2 x.f2.f3) (fun k=>?_) ?_
              · rw [mixture_pass.j0,if_neg (by simp),if_pos hi,bne_eq_false_iff_eq.mpr ho]
              · have hf:=frames_ev x.f0.f0 x.f0.f1 (by omega) hb
                have hnf:=nF_cast hb
                rw [hnf.1] at hf
                refine ev_call (fun k=>sample_Frames.f k x.f0.f0 x.f0.f1) ?gx (fun k=>?_) hf ?_
                rotate_left
                · rw [mixture_pass.j1,if_neg (by simp)]
                · by_cases hg : (nF x : Int)>fr
                  · have he2 : errOf ch fr x=2:=by
                      unfold errOf
                      rw [if_pos hok,if_pos (show x.f1.f0=x.f0.f0∧x.f1.f1=ch from ⟨hi,ho⟩),if_pos hg]
                    unfold passV
                    rw [he2,if_neg (by omega)]
                    refine Ev.congr (fun k=>?_) (Ev.now _)
                    rw [if_pos hg]
                  · have he : errOf ch fr x=0:=by
                      unfold errOf
                      rw [if_pos hok,if_pos (show x.f1.f0=x.f0.f0∧x.f1.f1=ch from ⟨hi,ho⟩),if_neg hg]
                    unfold passV
                    rw [if_pos he]
                    obtain ⟨i,hi2⟩:=Int.eq_ofNat_of_zero_le (show 0≤x.f1.f0 by have:=hM.1;omega)
                    obtain ⟨o,ho2⟩:=Int.eq_ofNat_of_zero_le (show 0≤x.f1.f1 by have:=hM.2.2.1;omega)
                    have m1:=hM.1
                    have m3:=hM.2.2.1
                    have m4:=hM.2.2.2.1
                    have hn2:=hnf.2
                    have hb2:=hb
                    rw [← hi,hi2] at hb2 hn2
                    rw [Int.toNat_natCast] at hn2
                    have hM2:=hM
                    rw [hi2,ho2] at hM2
                    have ha:=apply_ev hM2 hb2 hn2
                    have hb4:=hb.2.2.2.1
                    rw [hnf.1] at hb4
                    have hab:=appl_block (o:=o) (n:=nF x) (rowsV i o x.f1.f2) i x.f0.f1 (rowsV_length i o x.f1.f2) (by omega) (by omega) (by omega)
                    have hal : (appl (rowsV i o x.f1.f2) i (nF x) x.f0.f1).length≤1000000:=by
                      rw [appl_length,rowsV_length]
                      have:=Nat.mul_le_mul (show nF x≤65536 by omega) (show o≤8 by omega)
                      omega
                    have hrun:=run_ev x.f2.f0 x.f2.f1 x.f2.f2 x.f2.f3 (o : Int) (appl (rowsV i o x.f1.f2) i (nF x) x.f0.f1) (by omega)
                    rw [if_pos ⟨hR,hab⟩] at hrun
                    refine ev_head (fun k=>matrix_Apply.f k (i : Int) (o : Int) x.f1.f2 (i : Int) x.f0.f1) ?hx (fun k=>?_) ha ?_
                    rotate_left
                    · rw [if_neg hg,← hi,hi2,ho2]
                    · refine ev_head (fun k=>gain_Run.f k x.f2.f0 x.f2.f1 x.f2.f2 x.f2.f3 (o : Int) (appl (rowsV i o x.f1.f2) i (nF x) x.f0.f1)) (fun k t=>_) (fun k=>rfl) hrun ?_
                      refine Ev.congr (fun k=>?_) (Ev.now _)
                      unfold contrib
                      rw [hi2,ho2,Int.toNat_natCast,Int.toNat_natCast,← ho,ho2]
            · refine Ev.step (fun k=>?_) (bad1 (by unfold errOf;rw [if_pos hok,if_neg (fun h=>ho h.2)]))
              rw [mixture_pass.j0,if_neg (by simp),if_pos hi,bne_iff_ne.mpr ho]
          · refine Ev.step (fun k=>?_) (bad1 (by unfold errOf;rw [if_pos hok,if_neg (fun h=>hi h.1)]))
            rw [mixture_pass.j0,if_neg (by simp),if_neg hi]
      · refine Ev.congr (fun k=>?_) (bad (fun h=>hR h.2.2))
        unfold gain_Valid.f
        rw [if_pos rfl,valid_val,Option.bind_some,Option.bind_some,decide_eq_false hR]
        rfl
    · rw [decide_eq_false hM]
      refine Ev.congr (fun k=>?_) (bad (fun h=>hM h.2.1))
      rw [if_neg (by simp)]
  · rw [decide_eq_false hb]
    refine Ev.congr (fun k=>?_) (bad (fun h=>hb h.1))
    rw [if_neg (by simp)]
theorem passV_err (ch fr : Int) (x : S54) : (passV ch fr x).2.2=errOf ch fr x:=by
  unfold passV
  split
  · rename_i h
    exact h.symm
  · rfl
/-- What an input adds, or nothing where it is refused. -/
def gives (ch fr : Int) (x : S54) : List Int:=if errOf ch fr x=0 then contrib x else []
theorem passV_data (ch fr : Int) (x : S54) : (passV ch fr x).2.1=gives ch fr x:=by
  unfold passV gives
  split <;> rfl
theorem errOf_zero {ch fr : Int} {x : S54} (h : errOf ch fr x=0) : InOk x∧x.f1.f0=x.f0.f0∧x.f1.f1=ch∧(nF x : Int)≤fr:=by
  unfold errOf at h
  split at h
  · rename_i h1
    split at h
    · rename_i h2
      split at h
      · omega
      · exact ⟨h1,h2.1,h2.2,by omega⟩
    · omega
  · omega
theorem contrib_length {x : S54} : (contrib x).length=nF x*x.f1.f1.toNat:=by
  unfold contrib
  rw [runV_length,appl_length,rowsV_length]
theorem gives_ok {ch fr : Nat} {x : S54} : (gives (ch : Int) (fr : Int) x).length≤ch*fr∧∀ y ∈ gives (ch : Int) (fr : Int) x,InS y:=by
  unfold gives
  split
  · rename_i h
    obtain ⟨h1,h2,h3,h4⟩:=errOf_zero h
    refine ⟨?_,fun y hy=>runV_mem y hy⟩
    rw [contrib_length,h3,Int.toNat_natCast,Nat.mul_comm]
    exact Nat.mul_le_mul_left ch (by omega)
  · exact ⟨by simp,fun y hy=>by cases hy⟩

/-! ### sums -/
def addL : List Int→List Int→List Int
  | x :: s,y :: d=>(x+y) :: addL s d
  | s,[]=>s
  | [],_ :: _=>[]
theorem addL_nil (s : List Int) : addL s []=s:=by cases s <;> rfl
theorem addL_length (s : List Int) : ∀ d : List Int,(addL s d).length=s.length:=by
  induction s with
  | nil=>intro d;cases d <;> rfl
  | cons x s ih=>
    intro d
    cases d with
    | nil=>rfl
    | cons y d=>simp [addL,ih]
def Bounded (b : Int) (s : List Int) : Prop:=∀ x ∈ s,-b≤x∧x≤b
theorem addL_bound (b : Int) (b0 : 0≤b) (s : List Int) : ∀ d : List Int,Bounded b s→(∀ y ∈ d,InS y)→Bounded (b+8388608) (addL s d):=by
  induction s with
  | nil=>intro d hs hd x hx;cases d <;> cases hx
  | cons x s ih=>
    intro d hs hd
    cases d with
    | nil=>
      rw [addL_nil]
      intro y hy
      have:=hs y hy
      omega
    | cons y d=>
      intro z hz
      rcases List.mem_cons.1 hz with rfl|h
      · have h1:=hs x (List.mem_cons_self ..)
        have h2:=hd y (List.mem_cons_self ..)
        have h3:=h2.1
        have h4:=h2.2
        omega
      · exact ih d (fun u hu=>hs u (List.mem_cons_of_mem _ hu)) (fun u hu=>hd u (List.mem_cons_of_mem _ hu)) z h
theorem add_loop (e ch fr b : Int) (b1 : b≤1099511627776) (data : List Int) (hd : ∀ y ∈ data,InS y) (d : Nat) : ∀ (i : Nat) (s : List Int),i≤data.length→data.length - i=d→data.length≤s.length→s.length≤1000000→(∀ x ∈ s.drop i,-b≤x∧x≤b)→
    Ev (fun k=>mixture_Sum_1.l0 k e data (data.length : Int) (i : Int) ch fr s) (e,ch,fr,s.take i ++ addL (s.drop i) (data.drop i)):=by
  induction d with
  | zero=>
    intro i s hi hdd hl hl2 hs
    refine Ev.step (f:=fun _=>some (e,ch,fr,s)) (fun k=>?_) ?_
    · rw [mixture_Sum_1.l0,if_neg (by omega)]
    · rw [List.drop_eq_nil_of_le (show data.length≤i by omega),addL_nil,List.take_append_drop]
      exact Ev.now _
  | succ d ih=>
    intro i s hi hdd hl hl2 hs
    have hlt : i<data.length:=by omega
    have hls : i<s.length:=by omega
    have hy:=hd data[i] (List.getElem_mem hlt)
    have h1:=hy.1
    have h2:=hy.2
    have hse : s.set i (s[i]+data[i])=s.take i ++ (s[i]+data[i]) :: s.drop (i+1):=by rw [List.set_eq_take_append_cons_drop,if_pos hls]
    have htl : (s.take i).length=i:=by rw [List.length_take];omega
    have hx : -b≤s[i]∧s[i]≤b:=hs s[i] (by rw [List.drop_eq_getElem_cons hls];exact List.mem_cons_self ..)
    have e1 : (s.set i (s[i]+data[i])).take (i+1)=s.take i ++ [s[i]+data[i]]:=by
      rw [hse,List.take_append,htl,List.take_of_length_le (by omega),show i+1 - i=1 from by omega]
      rfl
    have e2 : (s.set i (s[i]+data[i])).drop (i+1)=s.drop (i+1):=by
      rw [hse,List.drop_append,htl,List.drop_eq_nil_of_le (by omega),show i+1 - i=1 from by omega]
      rfl
    have h:=ih (i+1) (s.set i (s[i]+data[i])) (by omega) (by omega) (by rw [List.length_set];exact hl) (by rw [List.length_set];exact hl2) (by
      rw [e2]
      intro x hx
      exact hs x (by rw [List.drop_eq_getElem_cons hls];exact List.mem_cons_of_mem _ hx))
    rw [e1,e2,List.append_assoc] at h
    rw [List.drop_eq_getElem_cons hls,List.drop_eq_getElem_cons hlt]
    refine Ev.step (fun k=>?_) h
    rw [mixture_Sum_1.l0,if_pos (by omega),if_pos (by omega),if_pos (by omega),if_pos (by omega),GainL.rd_at hlt,GainL.rd_at hls,w64 (s:=data[i]) (by omega) (by omega),w64 (s:=s[i]+data[i]) (by omega) (by omega),w64 (s:=(i : Int)+1) (by omega) (by omega),show (i : Int)+1=((i+1 : Nat) : Int) from by omega,Int.toNat_natCast]
def Lens (l : List S54) : Prop:=∀ x ∈ l,x.f0.f1.length≤1000000∧x.f1.f2.length≤1000000
theorem sum1_ev (ch fr : Nat) (hcf : ch*fr≤1000000) (x : S54) (h1 : x.f0.f1.length≤1000000) (h2 : x.f1.f2.length≤1000000) (b : Int) (b1 : b≤1099511627776) (s : List Int) (hs : Bounded b s) (hl : s.length=ch*fr) :
    Ev (fun k=>mixture_Sum_1.f k x.f0.f0 x.f0.f1 x.f1.f0 x.f1.f1 x.f1.f2 x.f2.f0 x.f2.f1 x.f2.f2 x.f2.f3 (ch : Int) (fr : Int) s) (errOf (ch : Int) (fr : Int) x,(ch : Int),(fr : Int),addL s (gives (ch : Int) (fr : Int) x)):=by
  refine ev_head (fun k=>mixture_pass.f k x.f0.f0 x.f0.f1 x.f1.f0 x.f1.f1 x.f1.f2 x.f2.f0 x.f2.f1 x.f2.f2 x.f2.f3 (ch : Int) (fr : Int)) (fun k t=>_) (fun k=>rfl) (pass_ev (ch : Int) (fr : Int) x h1 h2) ?_
  have hg:=gives_ok (ch:=ch) (fr:=fr) (x:=x)
  have h:=add_loop (errOf (ch : Int) (fr : Int) x) (ch : Int) (fr : Int) b b1 (gives (ch : Int) (fr : Int) x) hg.2 _ 0 s (by omega) rfl (by omega) (by omega) (by rw [List.drop_zero];exact hs)
  rw [List.take_zero,List.drop_zero,List.drop_zero,List.nil_append] at h
  refine Ev.congr (fun k=>?_) h
  rw [passV_err,passV_data]
  rfl
def foldV (ch fr : Int) : List S54→List Int→Int×List Int
  | [],s=>(0,s)
  | x :: l,s=>if errOf ch fr x=0 then foldV ch fr l (addL s (contrib x)) else (errOf ch fr x,s)
theorem rd54 {ps : List S54} {i : Nat} (h : i<ps.length) : rd_T54 ps (i : Int)=ps[i]:=by
  simp [rd_T54,List.getD_eq_getElem?_getD,h]
theorem fold_loop (ch fr : Nat) (hcf : ch*fr≤1000000) (l : List S54) (hl : l.length≤1000) (hlen : Lens l) (d : Nat) : ∀ (i : Nat) (s : List Int),i≤l.length→l.length - i=d→Bounded (8388608*(i : Int)) s→s.length=ch*fr→
    Ev (fun k=>mixture_fold.l0 k l (l.length : Int) (i : Int) (ch : Int) (fr : Int) s) ((foldV (ch : Int) (fr : Int) (l.drop i) s).1,(ch : Int),(fr : Int),(foldV (ch : Int) (fr : Int) (l.drop i) s).2):=by
  induction d with
  | zero=>
    intro i s hi hd hs hsl
    rw [List.drop_eq_nil_of_le (by omega)]
    refine Ev.step (f:=fun _=>some (0,(ch : Int),(fr : Int),s)) (fun k=>?_) (Ev.now _)
    rw [mixture_fold.l0,if_neg (by omega)]
  | succ d ih=>
    intro i s hi hd hs hsl
    have hlt : i<l.length:=by omega
    have hx:=hlen l[i] (List.getElem_mem hlt)
    have h1:=sum1_ev ch fr hcf l[i] hx.1 hx.2 (8388608*(i : Int)) (by omega) s hs hsl
    rw [List.drop_eq_getElem_cons hlt]
    refine ev_call (fun k=>mixture_Sum_1.f k l[i].f0.f0 l[i].f0.f1 l[i].f1.f0 l[i].f1.f1 l[i].f1.f2 l[i].f2.f0 l[i].f2.f1 l[i].f2.f2 l[i].f2.f3 (ch : Int) (fr : Int) s) ?gx (fun k=>?_) h1 ?_
    rotate_left
    · rw [mixture_fold.l0,if_pos (by omega),if_pos (by omega),if_pos (by omega),rd54 hlt]
    · by_cases he : errOf (ch : Int) (fr : Int) l[i]=0
      · have hg : gives (ch : Int) (fr : Int) l[i]=contrib l[i]:=by
          unfold gives
          rw [if_pos he]
        have hgo:=gives_ok (ch:=ch) (fr:=fr) (x:=l[i])
        rw [hg] at hgo
        have h:=ih (i+1) (addL s (contrib l[i])) (by omega) (by omega) (by
          have:=addL_bound (8388608*(i : Int)) (by omega) s (contrib l[i]) hs hgo.2
          rw [show 8388608*((i+1 : Nat) : Int)=8388608*(i : Int)+8388608 from by omega]
          exact this) (by rw [addL_length];exact hsl)
        rw [foldV,if_pos he]
        refine Ev.congr (fun k=>?_) h
        rw [if_pos he,hg,w64 (s:=(i : Int)+1) (by omega) (by omega),show (i : Int)+1=((i+1 : Nat) : Int) from by omega]
      · rw [foldV,if_neg he]
        refine Ev.congr (fun k=>?_) (Ev.now _)
        have hg : gives (ch : Int) (fr : Int) l[i]=[]:=by
          unfold gives
          rw [if_neg he]
        rw [if_neg he,hg,addL_nil]
/-- The sums of some inputs, or the error. -/
def sumV (ch fr : Int) (l : List S54) : List Int×Int:=
  if 1≤ch∧ch≤8∧0≤fr∧fr≤65536 then (if l.length≤32 then (if (foldV ch fr l (List.replicate (ch*fr).toNat 0)).1=0 then ((foldV ch fr l (List.replicate (ch*fr).toNat 0)).2,0) else ([],(foldV ch fr l (List.replicate (ch*fr).toNat 0)).1)) else ([],3)) else ([],2)
theorem sum_ev (ch fr : Int) (l : List S54) (hlen : Lens l) : Ev (fun k=>mixture_Sum.f k ch fr l) (sumV ch fr l):=by
  have bad : ¬ (1≤ch∧ch≤8∧0≤fr∧fr≤65536)→Ev (fun k=>mixture_Sum.j0 k l true ch fr) (sumV ch fr l):=fun h=>by
    unfold sumV
    rw [if_neg h]
    refine Ev.step (f:=fun _=>some ([],2)) (fun k=>?_) (Ev.now _)
    rw [mixture_Sum.j0,if_pos rfl]
  by_cases h1 : ch<1
  · exact Ev.congr (fun k=>by unfold mixture_Sum.f;rw [if_pos h1]) (bad (by omega))
  · by_cases h2 : ch>8
    · exact Ev.congr (fun k=>by unfold mixture_Sum.f;rw [if_neg h1,if_pos h2]) (bad (by omega))
    · by_cases h3 : fr<0
      · exact Ev.congr (fun k=>by unfold mixture_Sum.f;rw [if_neg h1,if_neg h2,if_pos h3]) (bad (by omega))
      · by_cases h4 : fr>65536
        · exact Ev.congr (fun k=>by unfold mixture_Sum.f;rw [if_neg h1,if_neg h2,if_neg h3,decide_eq_true h4]) (bad (by omega))
        · obtain ⟨c,rfl⟩:=Int.eq_ofNat_of_zero_le (show 0≤ch by omega)
          obtain ⟨f,rfl⟩:=Int.eq_ofNat_of_zero_le (show 0≤fr by omega)
          have hcf:=Nat.mul_le_mul (show c≤8 by omega) (show f≤65536 by omega)
          refine Ev.congr (f:=fun k=>mixture_Sum.j0 k l false (c : Int) (f : Int)) (fun k=>by unfold mixture_Sum.f;rw [if_neg h1,if_neg h2,if_neg h3,decide_eq_false h4]) ?_
          unfold sumV
          rw [if_pos (by omega)]
          by_cases h5 : l.length≤32
          · rw [if_pos h5,← Int.natCast_mul,Int.toNat_natCast]
            have hf:=fold_loop c f (by omega) l (by omega) hlen l.length 0 (List.replicate (c*f) 0) (by omega) (by omega) (by
              intro x hx
              rw [List.mem_replicate] at hx
              omega) (by rw [List.length_replicate])
            rw [List.drop_zero] at hf
            refine ev_call (fun k=>mixture_fold.f k l (c : Int) (f : Int) (List.replicate (c*f) 0)) ?gx (fun k=>?_) (Ev.congr (fun k=>rfl) hf) ?_
            rotate_left
            · rw [mixture_Sum.j0,if_neg (by simp),if_neg (by omega),← Int.natCast_mul,w64 (by omega) (by omega),if_pos (by omega),if_pos (by rw [Int.toNat_natCast];omega),Int.toNat_natCast]
            · by_cases he : (foldV (c : Int) (f : Int) l (List.replicate (c*f) 0)).1=0
              · rw [if_pos he]
                refine Ev.congr (fun k=>?_) (Ev.now _)
                rw [if_pos he]
              · rw [if_neg he]
                refine Ev.congr (fun k=>?_) (Ev.now _)
                rw [if_neg he]
          · rw [if_neg h5]
            refine Ev.step (f:=fun _=>some ([],3)) (fun k=>?_) (Ev.now _)
            rw [mixture_Sum.j0,if_neg (by simp),if_pos (by omega)]
/-- The limited sums. -/
def mixV (ch fr : Int) (l : List S54) (T R G : Int) : Int×List Int×Int×Int×Int×Int:=
  if (sumV ch fr l).2=0 then LimL.runV T R G ch (sumV ch fr l).1 else (0,[],0,0,0,(sumV ch fr l).2)
theorem foldV_length (ch fr : Int) (l : List S54) : ∀ s : List Int,(foldV ch fr l s).2.length=s.length:=by
  induction l with
  | nil=>intro s;rfl
  | cons x l ih=>
    intro s
    rw [foldV]
    split
    · rw [ih,addL_length]
    · rfl
theorem sumV_length (ch fr : Int) (l : List S54) : (sumV ch fr l).1.length≤524288:=by
  unfold sumV
  split
  · rename_i h
    split
    · split
      · show (foldV ch fr l (List.replicate (ch*fr).toNat 0)).2.length≤524288
        rw [foldV_length,List.length_replicate]
        have h1 : ch*fr≤8*fr:=Int.mul_le_mul_of_nonneg_right (by omega) (by omega)
        omega
      · simp
    · simp
  · simp
theorem mix_ev (ch fr : Int) (l : List S54) (T R G : Int) (hlen : Lens l) : Ev (fun k=>mixture_Mix.f k ch fr l T R G) (mixV ch fr l T R G):=by
  refine ev_head (fun k=>mixture_Sum.f k ch fr l) (fun k t=>_) (fun k=>rfl) (sum_ev ch fr l hlen) ?_
  unfold mixV
  by_cases h : (sumV ch fr l).2=0
  · rw [if_pos h]
    refine ev_head (fun k=>limiter_Run.f k T R G ch (sumV ch fr l).1) (fun k t=>_) (fun k=>by rw [if_pos h]) (LimL.run_ev T R G ch (sumV ch fr l).1 (by have:=sumV_length ch fr l;omega)) ?_
    exact Ev.congr (fun k=>rfl) (Ev.now _)
  · rw [if_neg h]
    refine Ev.congr (fun k=>?_) (Ev.now _)
    rw [if_neg h]
end Go.Proofs.Ytcnmemcclhahnaa.MixL
