/- Plain laws of blocks and ramps over blocks: sample.Valid and gain.Run, in numbers and lists. -/
import Derived.Test.YtcnmemcclhahnaaPureGainL
import Derived.Test.YtcnmemcclhahnaaQT3
set_option linter.unusedVariables false
set_option linter.unusedSimpArgs false
namespace Go.Proofs.Ytcnmemcclhahnaa.GainL
open Go.RowKit Go.Proofs.Ytcnmemcclhahnaa.QT Go.Proofs.YtcnmemcclhahnaaW.PrintWords Go.Proofs.YtcnmemcclhahnaaW.PrintLast

theorem rd_at {l : List Int} {i : Nat} (h : i<l.length) : rd l (i : Int)=l[i]:=by
  simp [rd,List.getD_eq_getElem?_getD,h]

/-! ### blocks -/
def InS (x : Int) : Prop:=-8388608≤x∧x≤8388607
instance (x : Int) : Decidable (InS x):=by
  unfold InS
  infer_instance
def allS (l : List Int) : Bool:=l.all fun x=>decide (InS x)
theorem allS_iff {l : List Int} : allS l=true↔∀ x ∈ l,InS x:=by simp [allS]
theorem allS_nil : allS []=true:=rfl
theorem allS_cons (x : Int) (l : List Int) : allS (x :: l)=(decide (InS x) && allS l):=rfl
def BlockOk (c : Int) (l : List Int) : Prop:=1≤c∧c≤8∧(l.length : Int) % c=0∧(l.length : Int) / c≤65536∧allS l=true
instance (c : Int) (l : List Int) : Decidable (BlockOk c l):=by
  unfold BlockOk
  infer_instance
theorem is_sample (x : Int) : sample_is.f x=some (decide (InS x)):=by
  unfold sample_is.f InS
  by_cases h : x ≥ -8388608
  · rw [if_pos h]
    by_cases h2 : x≤8388607
    · simp [h2,show (-8388608 : Int)≤x from h]
    · simp [h2]
  · rw [if_neg h]
    simp [show ¬ (-8388608 : Int)≤x from h]
theorem valid_loop (l : List Int) (hl : l.length≤4611686018427387904) (d : Nat) : ∀ i : Nat,i≤l.length→l.length - i=d→
    Ev (fun k=>sample_Valid.l0 k l (l.length : Int) (i : Int)) (allS (l.drop i)):=by
  induction d with
  | zero=>
    intro i hi hd
    refine Ev.step (f:=fun _=>some (allS (l.drop i))) (fun k=>?_) (Ev.now _)
    rw [sample_Valid.l0,if_neg (by omega),List.drop_eq_nil_of_le (by omega)]
    rfl
  | succ d ih=>
    intro i hi hd
    have hlt : i<l.length:=by omega
    rw [List.drop_eq_getElem_cons hlt,allS_cons]
    by_cases hx : InS l[i]
    · rw [decide_eq_true hx,Bool.true_and]
      refine Ev.step (fun k=>?_) (ih (i+1) (by omega) (by omega))
      rw [sample_Valid.l0,if_pos (by omega),if_pos (by omega),if_pos (by omega),rd_at hlt,is_sample,w64 (by omega) (by omega),decide_eq_true hx]
      rw [Option.bind_some,if_pos rfl]
      rw [show (i : Int)+1=((i+1 : Nat) : Int) from by omega]
    · rw [decide_eq_false hx,Bool.false_and]
      refine Ev.step (f:=fun _=>some false) (fun k=>?_) (Ev.now _)
      rw [sample_Valid.l0,if_pos (by omega),if_pos (by omega),if_pos (by omega),rd_at hlt,is_sample,decide_eq_false hx]
      simp
theorem block_ev (c : Int) (l : List Int) (hl : l.length≤4611686018427387904) : Ev (fun k=>sample_Valid.f k c l) (decide (BlockOk c l)):=by
  have bad : ∀ h : ¬ BlockOk c l,Ev (fun k=>sample_Valid.j0 k true c l) (decide (BlockOk c l)):=fun h=>by
    rw [decide_eq_false h]
    refine Ev.step (f:=fun _=>some false) (fun k=>?_) (Ev.now _)
    rw [sample_Valid.j0,if_pos rfl]
  by_cases h1 : c<1
  · refine Ev.congr (fun k=>?_) (bad (fun h=>by have:=h.1;omega))
    unfold sample_Valid.f
    rw [if_pos h1]
  · by_cases h2 : c>8
    · refine Ev.congr (fun k=>?_) (bad (fun h=>by have:=h.2.1;omega))
      unfold sample_Valid.f
      rw [if_neg h1,if_pos h2]
    · by_cases h3 : (l.length : Int) % c=0
      · have hq : (l.length : Int) / c≤l.length:=Int.ediv_le_self _ (by omega)
        have hq0 : 0≤(l.length : Int) / c:=Int.ediv_nonneg (by omega) (by omega)
        by_cases h4 : (l.length : Int) / c>65536
        · refine Ev.congr (fun k=>?_) (bad (fun h=>by have:=h.2.2.2.1;omega))
          unfold sample_Valid.f
          rw [if_neg h1,if_neg h2,if_neg (by omega),if_pos h3,w64 (by omega) (by omega),decide_eq_true h4]
        · have e : decide (BlockOk c l)=allS (l.drop 0):=by
            rw [List.drop_zero,Bool.eq_iff_iff,decide_eq_true_iff]
            unfold BlockOk
            exact ⟨fun h=>h.2.2.2.2,fun h=>⟨by omega,by omega,h3,by omega,h⟩⟩
          rw [e]
          have hv:=valid_loop l hl l.length 0 (by omega) (by omega)
          refine Ev.congr (f:=fun k=>sample_Valid.j0 k false c l) (fun k=>?_) (Ev.step (fun k=>?_) hv)
          · unfold sample_Valid.f
            rw [if_neg h1,if_neg h2,if_neg (by omega),if_pos h3,w64 (by omega) (by omega),decide_eq_false h4]
          · rw [sample_Valid.j0,if_neg (by simp)]
            rfl
      · refine Ev.congr (fun k=>?_) (bad (fun h=>h3 h.2.2.1))
        unfold sample_Valid.f
        rw [if_neg h1,if_neg h2,if_neg (by omega),if_neg h3]

/-! ### a ramp over a block -/
/-- The block: frame j / c with its gain. -/
def runV (F T N A : Int) (c : Nat) (l : List Int) : List Int:=l.mapIdx fun j x=>applyV x (gainAt F T N A ((j / c : Nat) : Int))
theorem runV_length (F T N A : Int) (c : Nat) (l : List Int) : (runV F T N A c l).length=l.length:=by simp [runV]
theorem runV_get {F T N A : Int} {c : Nat} {l : List Int} {j : Nat} (h : j<(runV F T N A c l).length) (h' : j<l.length) : (runV F T N A c l)[j]=applyV l[j] (gainAt F T N A ((j / c : Nat) : Int)):=by
  simp [runV]
theorem runV_mem {F T N A : Int} {c : Nat} {l : List Int} : ∀ x ∈ runV F T N A c l,InS x:=by
  intro x hx
  obtain ⟨j,hj,rfl⟩:=List.getElem_of_mem hx
  rw [runV_get hj (by rw [runV_length] at hj;exact hj)]
  exact applyV_range _ _

section
variable {F T N A : Int} {c n : Nat} {l : List Int}
theorem run_inner (hr : RampOk F T N A) (hc : 1≤c) (hc8 : c≤8) (hl : l.length=n*c) (hn : n≤65536) (i : Nat) (hi : i<n) (x9 ch : Int) (r : Int×List Int×Int×Int×Int×Int×Int)
    (hnext : Ev (fun k=>gain_Run.l0 k x9 (n : Int) ((i+1 : Nat) : Int) (c : Int) l F T N A ch ((runV F T N A c l).take ((i+1)*c))) r) (d : Nat) :
    ∀ j : Nat,j≤c→c - j=d→
      Ev (fun k=>gain_Run.l1 k x9 (gainAt F T N A (i : Int)) (n : Int) (i : Int) ((l.take ((i+1)*c)).drop (i*c)) (c : Int) (j : Int) (c : Int) l F T N A ch ((runV F T N A c l).take (i*c+j))) r:=by
  have hic : i*c+c≤n*c:=by
    have:=Nat.mul_le_mul_right c (show i+1≤n from hi)
    rw [Nat.add_mul,Nat.one_mul] at this
    exact this
  have hnc : n*c≤524288:=Nat.le_trans (Nat.mul_le_mul_left n hc8) (by omega)
  have hlen : ((l.take ((i+1)*c)).drop (i*c)).length=c:=by
    rw [List.length_drop,List.length_take,hl,Nat.add_mul,Nat.one_mul]
    omega
  induction d with
  | zero=>
    intro j hj hd
    have hjc : j=c:=by omega
    subst hjc
    refine Ev.step (fun k=>?_) hnext
    rw [gain_Run.l1,if_neg (by omega),w64 (by omega) (by omega)]
    rw [show (i+1)*j=i*j+j from by rw [Nat.add_mul,Nat.one_mul]]
    rfl
  | succ d ih=>
    intro j hj hd
    have hjl : i*c+j<l.length:=by omega
    have hjr : i*c+j<(runV F T N A c l).length:=by
      rw [runV_length]
      exact hjl
    have hrd : rd ((l.take ((i+1)*c)).drop (i*c)) (j : Int)=l[i*c+j]:=by
      rw [rd_at (by omega)]
      simp
    have hq : (i*c+j) / c=i:=by
      rw [Nat.mul_comm,Nat.mul_add_div (by omega),Nat.div_eq_of_lt (by omega),Nat.add_zero]
    refine Ev.step (fun k=>?_) (ih (j+1) (by omega) (by omega))
    rw [gain_Run.l1,if_pos (by omega),if_pos (by omega),if_pos (by rw [hlen];omega),hrd,apply_val]
    rw [Option.bind_some]
    rw [if_pos (by rw [List.length_take,runV_length];omega),w64 (by omega) (by omega)]
    rw [show i*c+(j+1)=(i*c+j)+1 from by omega,List.take_succ_eq_append_getElem hjr,runV_get hjr hjl,hq]
    rfl
theorem run_outer (hr : RampOk F T N A) (hc : 1≤c) (hc8 : c≤8) (hl : l.length=n*c) (hn : n≤65536) (ch : Int) (d : Nat) :
    ∀ i : Nat,i≤n→n - i=d→
      Ev (fun k=>gain_Run.l0 k (n : Int) (n : Int) (i : Int) (c : Int) l F T N A ch ((runV F T N A c l).take (i*c))) (ch,runV F T N A c l,F,T,N,later N A (n : Int),0):=by
  have hnc : n*c≤524288:=Nat.le_trans (Nat.mul_le_mul_left n hc8) (by omega)
  induction d with
  | zero=>
    intro i hi hd
    have hin : i=n:=by omega
    subst hin
    refine Ev.step (f:=fun _=>some (ch,runV F T N A c l,F,T,N,later N A (i : Int),0)) (fun k=>?_) (Ev.now _)
    have hr':=hr
    obtain ⟨f0,f1,t0,t1,n0,n1,a0,a1⟩:=hr'
    rw [gain_Run.l0,if_neg (by omega),List.take_of_length_le (by rw [runV_length];omega),w64 (by omega) (by omega)]
    rfl
  | succ d ih=>
    intro i hi hd
    have hlt : i<n:=by omega
    have hic : i*c+c≤n*c:=by
      have:=Nat.mul_le_mul_right c (show i+1≤n from hlt)
      rw [Nat.add_mul,Nat.one_mul] at this
      exact this
    have h1:=run_inner hr hc hc8 hl hn i hlt (n : Int) ch _ (ih (i+1) (by omega) (by omega)) c 0 (by omega) (by omega)
    refine Ev.step (fun k=>?_) h1
    have e1 : wrap64 ((i : Int)*(c : Int))=((i*c : Nat) : Int):=by
      rw [← Int.natCast_mul,w64 (by omega) (by omega)]
    have e2 : wrap64 ((wrap64 ((i : Int)+1))*(c : Int))=(((i+1)*c : Nat) : Int):=by
      rw [w64 (s:=(i : Int)+1) (by omega) (by omega),show (i : Int)+1=((i+1 : Nat) : Int) from by omega,← Int.natCast_mul,w64 (by omega) (by rw [Nat.add_mul,Nat.one_mul];omega)]
    have hlen : ((l.take ((i+1)*c)).drop (i*c)).length=c:=by
      rw [List.length_drop,List.length_take,hl,Nat.add_mul,Nat.one_mul]
      omega
    have e3 : (i+1)*c=i*c+c:=by rw [Nat.add_mul,Nat.one_mul]
    rw [gain_Run.l0,if_pos (by omega),slope_val hr (by omega)]
    rw [Option.bind_some]
    rw [e1,e2,if_pos (by omega),if_pos (by omega),if_pos (by omega),Int.toNat_natCast,Int.toNat_natCast,hlen,Nat.add_zero]
    rfl
end

theorem run_ev (F T N A c : Int) (l : List Int) (hl : l.length≤4611686018427387904) :
    Ev (fun k=>gain_Run.f k F T N A c l) (if RampOk F T N A∧BlockOk c l then (c,runV F T N A c.toNat l,F,T,N,later N A ((l.length : Int) / c),0) else (0,[],0,0,0,0,1)):=by
  by_cases hr : RampOk F T N A
  · by_cases hb : BlockOk c l
    · rw [if_pos ⟨hr,hb⟩]
      have hb':=hb
      obtain ⟨c1,c8,hm,hq,hs⟩:=hb'
      obtain ⟨cn,rfl⟩:=Int.eq_ofNat_of_zero_le (show 0≤c by omega)
      rw [Int.toNat_natCast]
      have hmod : l.length % cn=0:=by
        rw [← Int.natCast_emod] at hm
        omega
      have hdiv : ((l.length : Int) / (cn : Int))=((l.length / cn : Nat) : Int):=by rw [Int.natCast_ediv]
      have hln : l.length=l.length / cn*cn:=by
        have:=Nat.div_add_mod l.length cn
        rw [hmod,Nat.add_zero,Nat.mul_comm] at this
        exact this.symm
      rw [hdiv] at hq ⊢
      generalize hn : l.length / cn=n at hq hln hdiv ⊢
      have ho:=run_outer (F:=F) (T:=T) (N:=N) (A:=A) (c:=cn) (n:=n) (l:=l) hr (by omega) (by omega) hln (by omega) (cn : Int) n 0 (by omega) (by omega)
      have hb2:=block_ev (cn : Int) l hl
      rw [decide_eq_true hb] at hb2
      have hlen : l.length≤524288:=by
        rw [hln]
        exact Nat.le_trans (Nat.mul_le_mul_left n (show cn≤8 by omega)) (by omega)
      refine Ev.congr (f:=fun k=>(sample_Valid.f k (cn : Int) l).bind fun t=>gain_Run.j0 k (!t) (cn : Int) l F T N A) (fun k=>?_) (Ev.bind hb2 (Ev.step (fun k=>?_) ho))
      · unfold gain_Run.f
        rw [valid_val]
        rw [Option.bind_some]
        rw [if_pos (by simpa using hr)]
      · rw [gain_Run.j0,if_neg (by simp),if_pos (by omega),if_pos (by omega),if_neg (by omega),hdiv,w64 (by omega) (by omega)]
        rw [Nat.zero_mul,List.take_zero]
        rfl
    · rw [if_neg (fun h=>hb h.2)]
      have hb2:=block_ev c l hl
      rw [decide_eq_false hb] at hb2
      refine Ev.congr (f:=fun k=>(sample_Valid.f k c l).bind fun t=>gain_Run.j0 k (!t) c l F T N A) (fun k=>?_) (Ev.bind hb2 (Ev.step (f:=fun _=>some (0,[],0,0,0,0,1)) (fun k=>?_) (Ev.now _)))
      · unfold gain_Run.f
        rw [valid_val]
        rw [Option.bind_some]
        rw [if_pos (by simpa using hr)]
      · rw [gain_Run.j0,if_pos (by simp)]
  · rw [if_neg (fun h=>hr h.1)]
    refine Ev.congr (f:=fun k=>gain_Run.j0 k true c l F T N A) (fun k=>?_) (Ev.step (f:=fun _=>some (0,[],0,0,0,0,1)) (fun k=>?_) (Ev.now _))
    · unfold gain_Run.f
      rw [valid_val]
      rw [Option.bind_some]
      rw [if_neg (by simpa using hr)]
    · rw [gain_Run.j0,if_pos rfl]

/-! ### ramps over joined blocks -/
theorem runV_append {F T N A : Int} (hr : RampOk F T N A) {c : Nat} (hc : 1≤c) (m : Nat) {a b : List Int} (ha : a.length=m*c) : runV F T N A c (a ++ b)=runV F T N A c a ++ runV F T N (later N A (m : Int)) c b:=by
  unfold runV
  rw [List.mapIdx_append]
  congr 1
  apply List.ext_getElem
  · simp
  · intro j h1 h2
    simp only [List.getElem_mapIdx]
    have e : (j+a.length) / c=m+j / c:=by rw [ha,Nat.add_mul_div_right _ _ (by omega),Nat.add_comm]
    rw [gainAt_later (i:=((j / c : Nat) : Int)) hr (by omega) (Int.natCast_nonneg _),e]
    rfl
end Go.Proofs.Ytcnmemcclhahnaa.GainL
