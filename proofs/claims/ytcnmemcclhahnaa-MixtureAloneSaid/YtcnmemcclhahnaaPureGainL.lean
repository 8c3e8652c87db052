/- Plain laws of gains and ramps: what the printed functions of package gain compute, in numbers and lists. -/
import Derived.Test.YtcnmemcclhahnaaQT2
import Derived.Test.YtcnmemcclhahnaaQT2
import Derived.Test.YtcnmemcclhahnaaQT2

set_option linter.unusedVariables false
set_option linter.unusedSimpArgs false
namespace Go.Proofs.Ytcnmemcclhahnaa.GainL
open Go.RowKit Go.Proofs.Ytcnmemcclhahnaa.QT Go.Proofs.YtcnmemcclhahnaaW.PrintWords Go.Proofs.YtcnmemcclhahnaaW.PrintLast

theorem w64 {s : Int} (h0 : -9223372036854775808≤s) (h1 : s≤9223372036854775807) : wrap64 s=s:=by
  unfold wrap64
  omega

/-- One round that begins with a call. -/
theorem ev_call {α β : Type} {g : Nat→Option β} (h : Nat→Option α) {a : α} (f : Nat→α→Option β) {r : β} (hg : ∀ k,g (k+1)=(h k).bind (f k)) (hh : Ev h a) (hk : Ev (fun n=>f n a) r) : Ev g r:=
  Ev.step hg (Ev.bind hh hk)
/-- A function that begins with a call. -/
theorem ev_head {α β : Type} {g : Nat→Option β} (h : Nat→Option α) {a : α} (f : Nat→α→Option β) {r : β} (hg : ∀ k,g k=(h k).bind (f k)) (hh : Ev h a) (hk : Ev (fun n=>f n a) r) : Ev g r:=
  Ev.congr hg (Ev.bind hh hk)

/-! ### a sample with a gain -/
def satV (n : Int) : Int:=mx (-8388608) (mn 8388607 n)
theorem satV_range (n : Int) : -8388608≤satV n∧satV n≤8388607:=by
  unfold satV mx mn
  omega
def applyV (s g : Int) : Int:=if -8388608≤s∧s≤8388607∧0≤g∧g≤262144 then satV ((s*g+32768) / 65536) else 0
theorem applyV_range (s g : Int) : -8388608≤applyV s g∧applyV s g≤8388607:=by
  unfold applyV
  split
  · exact satV_range _
  · omega
theorem prod_range {s g : Int} (h0 : -8388608≤s) (h1 : s≤8388607) (g0 : 0≤g) (g1 : g≤262144) : -2199023255552≤s*g∧s*g≤2199023255552:=by
  have a : s*g≤8388608*g:=Int.mul_le_mul_of_nonneg_right (by omega) g0
  have b : (-8388608)*g≤s*g:=Int.mul_le_mul_of_nonneg_right (by omega) g0
  omega
theorem is_val (g : Int) : gain_is.f g=some (decide (0≤g∧g≤262144)):=by
  unfold gain_is.f
  by_cases h : g ≥ 0
  · rw [if_pos h]
    by_cases h2 : g≤262144
    · simp [h2,show (0 : Int)≤g from h]
    · simp [h2]
  · rw [if_neg h]
    simp [show ¬ (0 : Int)≤g from h]
theorem apply_val (s g : Int) : gain_Apply.f s g=some (applyV s g):=by
  unfold gain_Apply.f sample_Sat.f applyV
  by_cases h0 : s < -8388608
  · rw [if_pos h0,if_neg (by omega)]
  · rw [if_neg h0]
    by_cases h1 : s>8388607
    · rw [if_pos h1,if_neg (by omega)]
    · rw [if_neg h1,is_val]
      simp only [Option.bind_some]
      by_cases hg : 0≤g∧g≤262144
      · have hp:=prod_range (s:=s) (g:=g) (by omega) (by omega) hg.1 hg.2
        rw [if_pos (by simpa using hg),if_pos ⟨by omega,by omega,hg.1,hg.2⟩,w64 (s:=s) (by omega) (by omega),w64 (s:=s*g) (by omega) (by omega),w64 (by omega) (by omega)]
        rfl
      · rw [if_neg (by simpa using hg),if_neg (fun h=>hg ⟨h.2.2.1,h.2.2.2⟩)]

/-! ### ramps -/
def RampOk (F T N A : Int) : Prop:=0≤F∧F≤262144∧0≤T∧T≤262144∧0≤N∧N≤4194304∧0≤A∧A≤N
instance (F T N A : Int) : Decidable (RampOk F T N A):=by
  unfold RampOk
  infer_instance
theorem valid_val (F T N A : Int) : gain_slope_valid.f F T N A=some (decide (RampOk F T N A)):=by
  unfold gain_slope_valid.f
  rw [is_val,is_val]
  simp only [Option.bind_some]
  by_cases h1 : 0≤F∧F≤262144
  · rw [if_pos (by simpa using h1)]
    by_cases h2 : 0≤T∧T≤262144
    · rw [if_pos (by simpa using h2)]
      by_cases h3 : N ≥ 0
      · rw [if_pos h3]
        by_cases h4 : N≤4194304
        · rw [if_pos h4]
          by_cases h5 : A ≥ 0
          · rw [if_pos h5]
            congr 1
            rw [decide_eq_decide]
            unfold RampOk
            omega
          · rw [if_neg h5]
            congr 1
            refine (decide_eq_false ?_).symm
            unfold RampOk
            omega
        · rw [if_neg h4]
          congr 1
          refine (decide_eq_false ?_).symm
          unfold RampOk
          omega
      · rw [if_neg h3]
        congr 1
        refine (decide_eq_false ?_).symm
        unfold RampOk
        omega
    · rw [if_neg (by simpa using h2)]
      congr 1
      refine (decide_eq_false ?_).symm
      unfold RampOk
      omega
  · rw [if_neg (by simpa using h1)]
    congr 1
    refine (decide_eq_false ?_).symm
    unfold RampOk
    omega

/-- A quotient rounded downwards, n above 0. -/
theorem floor_eq (x n : Int) (hn : 0<n) : (if Int.tmod x n<0 then Int.tdiv x n - 1 else Int.tdiv x n)=x / n:=by
  rw [Int.tmod_eq_emod,Int.tdiv_eq_ediv]
  have h0:=Int.emod_nonneg x (show n≠0 by omega)
  have h1:=Int.emod_lt_of_pos x hn
  by_cases h : 0≤x∨n∣x
  · rw [if_pos h,if_pos h]
    simp only [Int.natCast_zero,Int.sub_zero,Int.add_zero]
    rw [if_neg (by omega)]
  · rw [if_neg h,if_neg h,Int.sign_eq_one_of_pos hn,if_pos (by omega)]
    omega
theorem quo_range (x n : Int) (hn : 0<n) {b : Int} (hb : -b≤x∧x≤b) : -b≤x / n∧x / n≤b:=by
  have h1:=Int.ediv_mul_le x (show n≠0 by omega)
  have h2:=Int.lt_ediv_add_one_mul_self x hn
  constructor
  · by_cases hq : 0≤x / n
    · omega
    · have h3 : (x / n+1)*n≤(x / n+1)*1:=Int.mul_le_mul_of_nonpos_left (by omega) (by omega)
      omega
  · by_cases hq : 0≤x / n
    · have h3 : (x / n)*1≤(x / n)*n:=Int.mul_le_mul_of_nonneg_left (by omega) hq
      omega
    · omega
/-- The gain of the frame i from now on. -/
def gainAt (F T N A i : Int) : Int:=if N - A≤i then T else F+(T - F)*(A+i) / N
theorem slope_val {F T N A i : Int} (h : RampOk F T N A) (h0 : 0≤i) : gain_slope_gain.f F T N A i=some (gainAt F T N A i):=by
  obtain ⟨f0,f1,t0,t1,n0,n1,a0,a1⟩:=h
  unfold gain_slope_gain.f gainAt
  rw [w64 (s:=N - A) (by omega) (by omega)]
  by_cases hi : i ≥ N - A
  · rw [if_pos hi,if_pos (by omega)]
  · rw [if_neg hi,if_neg (show ¬ N=0 by omega),if_neg (show ¬ N - A≤i by omega),w64 (s:=T - F) (by omega) (by omega),w64 (s:=A+i) (by omega) (by omega)]
    have hp : -1099511627776≤(T - F)*(A+i)∧(T - F)*(A+i)≤1099511627776:=by
      have a : (T - F)*(A+i)≤262144*(A+i):=Int.mul_le_mul_of_nonneg_right (by omega) (by omega)
      have b : (-262144)*(A+i)≤(T - F)*(A+i):=Int.mul_le_mul_of_nonneg_right (by omega) (by omega)
      omega
    rw [w64 (s:=(T - F)*(A+i)) (by omega) (by omega)]
    have hn : 0<N:=by omega
    have hf:=floor_eq ((T - F)*(A+i)) N hn
    have hq:=quo_range ((T - F)*(A+i)) N hn (b:=1099511627776) hp
    by_cases hm : Int.tmod ((T - F)*(A+i)) N<0
    · rw [if_pos hm] at hf ⊢
      rw [w64 (s:=Int.tdiv ((T - F)*(A+i)) N) (by omega) (by omega),w64 (s:=Int.tdiv ((T - F)*(A+i)) N - 1) (by omega) (by omega),hf,w64 (by omega) (by omega)]
    · rw [if_neg hm] at hf ⊢
      rw [hf,w64 (s:=(T - F)*(A+i) / N) (by omega) (by omega),w64 (by omega) (by omega)]
theorem gainAt_range {F T N A i : Int} (h : RampOk F T N A) (h0 : 0≤i) : (F≤gainAt F T N A i∨T≤gainAt F T N A i)∧(gainAt F T N A i≤F∨gainAt F T N A i≤T):=by
  obtain ⟨f0,f1,t0,t1,n0,n1,a0,a1⟩:=h
  unfold gainAt
  by_cases hi : N - A≤i
  · rw [if_pos hi]
    omega
  · rw [if_neg hi]
    have hn : 0<N:=by omega
    by_cases hft : F≤T
    · have hx0 : 0≤(T - F)*(A+i):=Int.mul_nonneg (by omega) (by omega)
      have hx1 : (T - F)*(A+i)≤(T - F)*N:=Int.mul_le_mul_of_nonneg_left (by omega) (by omega)
      have hq0 : 0≤(T - F)*(A+i) / N:=Int.ediv_nonneg hx0 (by omega)
      have hq1 : (T - F)*(A+i) / N≤T - F:=Int.ediv_le_of_le_mul hn hx1
      omega
    · have hx0 : (T - F)*(A+i)≤0:=Int.mul_nonpos_of_nonpos_of_nonneg (by omega) (by omega)
      have hx1 : (T - F)*N≤(T - F)*(A+i):=Int.mul_le_mul_of_nonpos_left (by omega) (by omega)
      have hq0 : (T - F)*(A+i) / N≤0:=by
        have h3 : (T - F)*(A+i)≤0*N:=by omega
        have:=Int.ediv_le_of_le_mul hn h3
        omega
      have hq1 : T - F≤(T - F)*(A+i) / N:=Int.le_ediv_of_mul_le hn hx1
      omega
theorem gainAt_gain {F T N A i : Int} (h : RampOk F T N A) (h0 : 0≤i) : 0≤gainAt F T N A i∧gainAt F T N A i≤262144:=by
  have h2:=gainAt_range h h0
  obtain ⟨f0,f1,t0,t1,n0,n1,a0,a1⟩:=h
  omega
theorem gainAt_end {F T N A i : Int} (hi : N - A≤i) : gainAt F T N A i=T:=by
  unfold gainAt
  rw [if_pos hi]
/-- It moves in one direction. -/
theorem gainAt_up {F T N A i j : Int} (h : RampOk F T N A) (h0 : 0≤i) (hij : i≤j) (hft : F≤T) : gainAt F T N A i≤gainAt F T N A j:=by
  by_cases hj : N - A≤j
  · rw [gainAt_end hj]
    have h2:=gainAt_range h h0
    omega
  · obtain ⟨f0,f1,t0,t1,n0,n1,a0,a1⟩:=h
    unfold gainAt
    rw [if_neg hj,if_neg (by omega)]
    have hn : 0<N:=by omega
    have hx : (T - F)*(A+i)≤(T - F)*(A+j):=Int.mul_le_mul_of_nonneg_left (by omega) (by omega)
    have:=Int.ediv_le_ediv hn hx
    omega
theorem gainAt_down {F T N A i j : Int} (h : RampOk F T N A) (h0 : 0≤i) (hij : i≤j) (hft : T≤F) : gainAt F T N A j≤gainAt F T N A i:=by
  by_cases hj : N - A≤j
  · rw [gainAt_end hj]
    have h2:=gainAt_range h h0
    omega
  · obtain ⟨f0,f1,t0,t1,n0,n1,a0,a1⟩:=h
    unfold gainAt
    rw [if_neg hj,if_neg (by omega)]
    have hn : 0<N:=by omega
    have hx : (T - F)*(A+j)≤(T - F)*(A+i):=Int.mul_le_mul_of_nonpos_left (by omega) (by omega)
    have:=Int.ediv_le_ediv hn hx
    omega
/-- n frames later. -/
def later (N A n : Int) : Int:=mn N (A+n)
theorem later_ok {F T N A n : Int} (h : RampOk F T N A) (hn : 0≤n) : RampOk F T N (later N A n):=by
  obtain ⟨f0,f1,t0,t1,n0,n1,a0,a1⟩:=h
  unfold later mn
  refine ⟨f0,f1,t0,t1,n0,n1,?_,?_⟩
  · omega
  · omega
theorem gainAt_later {F T N A n i : Int} (h : RampOk F T N A) (hn : 0≤n) (hi : 0≤i) : gainAt F T N (later N A n) i=gainAt F T N A (n+i):=by
  obtain ⟨f0,f1,t0,t1,n0,n1,a0,a1⟩:=h
  unfold later mn
  by_cases hc : A+n<N
  · rw [if_pos hc]
    unfold gainAt
    rw [show A+n+i=A+(n+i) from by omega]
    by_cases hx : N - A≤n+i
    · rw [if_pos hx,if_pos (by omega)]
    · rw [if_neg hx,if_neg (by omega)]
  · rw [if_neg hc,gainAt_end (by omega),gainAt_end (by omega)]
theorem later_later {N A n m : Int} (hn : 0≤n) (hm : 0≤m) : later N (later N A n) m=later N A (n+m):=by
  unfold later mn
  omega
end Go.Proofs.Ytcnmemcclhahnaa.GainL
