/- Plain laws of the limiter: what the printed functions of package limiter compute, in numbers and lists. -/
import Derived.Test.YtcnmemcclhahnaaQT9
import Derived.Test.YtcnmemcclhahnaaQT8
set_option linter.unusedVariables false
set_option linter.unusedSimpArgs false
namespace Go.Proofs.Ytcnmemcclhahnaa.LimL
open Go.RowKit Go.Proofs.Ytcnmemcclhahnaa.QT Go.Proofs.YtcnmemcclhahnaaW.PrintWords Go.Proofs.YtcnmemcclhahnaaW.PrintLast

theorem w64 {s : Int} (h0 : -9223372036854775808≤s) (h1 : s≤9223372036854775807) : wrap64 s=s:=by
  unfold wrap64
  omega
theorem rd_at {l : List Int} {i : Nat} (h : i<l.length) : rd l (i : Int)=l[i]:=by
  simp [rd,List.getD_eq_getElem?_getD,h]
/-- One round that begins with a call. -/
theorem ev_call {α β : Type} {g : Nat→Option β} (h : Nat→Option α) {a : α} (f : Nat→α→Option β) {r : β} (hg : ∀ k,g (k+1)=(h k).bind (f k)) (hh : Ev h a) (hk : Ev (fun n=>f n a) r) : Ev g r:=
  Ev.step hg (Ev.bind hh hk)
/-- A function that begins with a call. -/
theorem ev_head {α β : Type} {g : Nat→Option β} (h : Nat→Option α) {a : α} (f : Nat→α→Option β) {r : β} (hg : ∀ k,g k=(h k).bind (f k)) (hh : Ev h a) (hk : Ev (fun n=>f n a) r) : Ev g r:=
  Ev.congr hg (Ev.bind hh hk)

/-! ### limiters -/
def LimOk (T R G : Int) : Prop:=1≤T∧T≤8388607∧1≤R∧R≤65536∧0≤G∧G≤65536
instance (T R G : Int) : Decidable (LimOk T R G):=by
  unfold LimOk
  infer_instance
theorem valid_val (T R G : Int) : limiter_Valid.f T R G=some (decide (LimOk T R G)):=by
  unfold limiter_Valid.f
  by_cases h1 : T ≥ 1
  · by_cases h2 : T≤8388607
    · by_cases h3 : R ≥ 1
      · by_cases h4 : R≤65536
        · by_cases h5 : G ≥ 0
          · rw [if_pos h1,if_pos h2,if_pos h3,if_pos h4,if_pos h5]
            congr 1
            rw [decide_eq_decide]
            exact ⟨fun h=>⟨h1,h2,h3,h4,h5,h⟩,fun h=>h.2.2.2.2.2⟩
          · rw [if_pos h1,if_pos h2,if_pos h3,if_pos h4,if_neg h5,decide_eq_false (fun h=>h5 h.2.2.2.2.1)]
        · rw [if_pos h1,if_pos h2,if_pos h3,if_neg h4,decide_eq_false (fun h=>h4 h.2.2.2.1)]
      · rw [if_pos h1,if_pos h2,if_neg h3,decide_eq_false (fun h=>h3 h.2.2.1)]
    · rw [if_pos h1,if_neg h2,decide_eq_false (fun h=>h2 h.2.1)]
  · rw [if_neg h1,decide_eq_false (fun h=>h1 h.1)]

/-! ### needed gains -/
def need (t p : Int) : Int:=if p≤t then 65536 else t*65536 / p
theorem need_ev {t p : Int} (t1 : 1≤t) (t2 : t≤8388607) (p1 : 0≤p) (p2 : p≤1099511627776) : Ev (fun k=>limiter_Needed.f k t p) (need t p):=by
  refine Ev.congr (f:=fun k=>limiter_Needed.j0 k t p false) (fun k=>?_) ?_
  · unfold limiter_Needed.f
    rw [if_neg (by omega),if_neg (by omega),if_neg (by omega),decide_eq_false (by omega)]
  · refine Ev.step (f:=fun _=>some (need t p)) (fun k=>?_) (Ev.now _)
    rw [limiter_Needed.j0,if_neg (by simp)]
    unfold need
    by_cases h : p≤t
    · rw [if_pos h,if_pos h]
    · rw [if_neg h,if_neg h,if_neg (by omega),w64 (s:=t*65536) (by omega) (by omega)]
      have h1 : Int.tdiv (t*65536) p=t*65536 / p:=Int.tdiv_eq_ediv_of_nonneg (by omega)
      have h2 : t*65536 / p≤t*65536:=Int.ediv_le_self _ (by omega)
      have h3 : 0≤t*65536 / p:=Int.ediv_nonneg (by omega) (by omega)
      rw [h1,w64 (by omega) (by omega)]
theorem need_range {t p : Int} (t1 : 1≤t) (p1 : 0≤p) : 0≤need t p∧need t p≤65536:=by
  unfold need
  split
  · omega
  · rename_i h
    refine ⟨Int.ediv_nonneg (by omega) (by omega),?_⟩
    have : t*65536 / p<65537:=Int.ediv_lt_of_lt_mul (by omega) (by omega)
    omega
theorem need_mul {t p : Int} (t1 : 1≤t) (p1 : 0≤p) : p*need t p≤t*65536:=by
  unfold need
  split
  · exact Int.mul_le_mul_of_nonneg_right (by omega) (by omega)
  · rename_i h
    have : t*65536 / p*p≤t*65536:=Int.ediv_mul_le _ (by omega)
    rw [Int.mul_comm]
    exact this
theorem need_mono {t u p : Int} (t1 : 1≤t) (h : t≤u) (p1 : 0≤p) : need t p≤need u p:=by
  by_cases hp : p≤u
  · have h1:=need_range t1 p1
    have h2 : need u p=65536:=by
      unfold need
      rw [if_pos hp]
    omega
  · unfold need
    rw [if_neg (by omega),if_neg hp]
    exact Int.ediv_le_ediv (by omega) (by omega)

/-! ### peaks -/
def peak : Int→List Int→Int
  | p,[]=>p
  | p,x :: l=>peak (mx (mx p x) (-x)) l
theorem peak_ge (l : List Int) : ∀ p,p≤peak p l:=by
  induction l with
  | nil=>intro p;exact Int.le_refl _
  | cons x l ih=>
    intro p
    have:=ih (mx (mx p x) (-x))
    unfold peak
    unfold mx at this ⊢
    (repeat' split at this) <;> (repeat' split) <;> omega
theorem peak_mem (l : List Int) : ∀ p,∀ x ∈ l,-(peak p l)≤x∧x≤peak p l:=by
  induction l with
  | nil=>intro p x hx;cases hx
  | cons y l ih=>
    intro p x hx
    unfold peak
    rcases List.mem_cons.1 hx with rfl|h
    · have:=peak_ge l (mx (mx p x) (-x))
      have h2 : x≤mx (mx p x) (-x)∧-x≤mx (mx p x) (-x):=by
        unfold mx
        (repeat' split) <;> omega
      omega
    · exact ih _ x h
/-- Sums that a limiter takes. -/
def Small (l : List Int) : Prop:=∀ x ∈ l,-1099511627776≤x∧x≤1099511627776
instance (l : List Int) : Decidable (Small l):=by
  unfold Small
  infer_instance
theorem peak_le (l : List Int) : ∀ p b,p≤b→(∀ x ∈ l,-b≤x∧x≤b)→peak p l≤b:=by
  induction l with
  | nil=>intro p b h _;exact h
  | cons y l ih=>
    intro p b h hl
    unfold peak
    refine ih _ b ?_ fun x hx=>hl x (List.mem_cons_of_mem _ hx)
    have:=hl y (List.mem_cons_self ..)
    unfold mx
    (repeat' split) <;> omega

/-! ### a frame -/
def outV (g x : Int) : Int:=mx (-8388608) (mn 8388607 (Int.tdiv (x*g) 65536))
def frameG (T R G : Int) (f : List Int) : Int:=mn (need T (peak 0 f)) (G+R)
theorem frameG_range {T R G : Int} (h : LimOk T R G) (f : List Int) : 0≤frameG T R G f∧frameG T R G f≤65536∧frameG T R G f≤need T (peak 0 f):=by
  have h1:=need_range (t:=T) (p:=peak 0 f) h.1 (peak_ge f 0)
  have h2:=h.2.2.2.2.1
  have h3:=h.2.2.1
  unfold frameG mn
  split <;> omega
theorem frameG_ok {T R G : Int} (h : LimOk T R G) (f : List Int) : LimOk T R (frameG T R G f):=by
  have h1:=frameG_range h f
  exact ⟨h.1,h.2.1,h.2.2.1,h.2.2.2.1,h1.1,h1.2.1⟩
theorem mul_range {x g : Int} (x0 : -1099511627776≤x) (x1 : x≤1099511627776) (g0 : 0≤g) (g1 : g≤65536) : -72057594037927936≤x*g∧x*g≤72057594037927936:=by
  have a : x*g≤1099511627776*g:=Int.mul_le_mul_of_nonneg_right (by omega) g0
  have b : (-1099511627776)*g≤x*g:=Int.mul_le_mul_of_nonneg_right (by omega) g0
  omega
theorem tdiv_range {a : Int} (h0 : -72057594037927936≤a) (h1 : a≤72057594037927936) : -1099511627776≤Int.tdiv a 65536∧Int.tdiv a 65536≤1099511627776:=by
  by_cases h : 0≤a
  · rw [Int.tdiv_eq_ediv_of_nonneg h]
    omega
  · have e : Int.tdiv a 65536 = -((-a) / 65536):=by
      rw [← Int.tdiv_eq_ediv_of_nonneg (a:=-a) (by omega),Int.neg_tdiv,Int.neg_neg]
    rw [e]
    omega
theorem second (T R G C : Int) (f : List Int) (hl : f.length≤4611686018427387904) (hs : Small f) (g0 : 0≤G) (g1 : G≤65536) (d : Nat) : ∀ (i : Nat) (ys : List Int),i≤f.length→f.length - i=d→ys.length+(f.length - i)≤17592186044416→
    Ev (fun k=>limiter_Run_1.l1 k f (f.length : Int) (i : Int) T R G C ys) (T,R,G,C,ys ++ (f.drop i).map (outV G)):=by
  induction d with
  | zero=>
    intro i ys hi hd hy
    refine Ev.step (f:=fun _=>some (T,R,G,C,ys ++ (f.drop i).map (outV G))) (fun k=>?_) (Ev.now _)
    rw [limiter_Run_1.l1,if_neg (by omega),List.drop_eq_nil_of_le (by omega),List.map_nil,List.append_nil]
  | succ d ih=>
    intro i ys hi hd hy
    have hlt : i<f.length:=by omega
    rw [List.drop_eq_getElem_cons hlt,List.map_cons]
    have hx:=hs f[i] (List.getElem_mem hlt)
    have hm:=mul_range hx.1 hx.2 g0 g1
    have ht:=tdiv_range hm.1 hm.2
    have h:=ih (i+1) (ys ++ [outV G f[i]]) (by omega) (by omega) (by rw [List.length_append];simp only [List.length_cons,List.length_nil];omega)
    rw [List.append_assoc] at h
    refine Ev.step (fun k=>?_) h
    rw [limiter_Run_1.l1,if_pos (by omega),if_pos (by omega),if_pos (by omega),rd_at hlt,w64 (s:=f[i]*G) (by omega) (by omega),w64 (s:=Int.tdiv _ _) (by omega) (by omega)]
    unfold sample_Sat.f
    rw [Option.bind_some,if_pos (by omega),w64 (s:=(i : Int)+1) (by omega) (by omega),show (i : Int)+1=((i+1 : Nat) : Int) from by omega]
    rfl
theorem first {T R G : Int} (C : Int) (hok : LimOk T R G) (f : List Int) (hl : f.length≤8796093022208) (hs : Small f) (ys : List Int) (hy : ys.length≤8796093022208) (d : Nat) : ∀ (i : Nat) (p : Int),i≤f.length→f.length - i=d→0≤p→p≤1099511627776→peak p (f.drop i)=peak 0 f→
    Ev (fun k=>limiter_Run_1.l0 k f p f (f.length : Int) (i : Int) T R G C ys) (T,R,frameG T R G f,C,ys ++ f.map (outV (frameG T R G f))):=by
  induction d with
  | zero=>
    intro i p hi hd p0 p1 hp
    rw [List.drop_eq_nil_of_le (by omega)] at hp
    have hp : p=peak 0 f:=hp
    have hg:=frameG_range hok f
    have h2:=second T R (frameG T R G f) C f (by omega) hs hg.1 hg.2.1 f.length 0 ys (by omega) (by omega) (by omega)
    rw [List.drop_zero] at h2
    refine ev_call (fun k=>limiter_Needed.f k T p) ?fx (fun k=>?_) (need_ev hok.1 hok.2.1 p0 p1) ?_
    rotate_left
    · rw [limiter_Run_1.l0,if_neg (by omega)]
    · refine Ev.congr (fun k=>?_) h2
      have h3:=hok.2.2.2.2
      have h4:=hok.2.2
      rw [w64 (s:=G+R) (by omega) (by omega),hp]
      rfl
  | succ d ih=>
    intro i p hi hd p0 p1 hp
    have hlt : i<f.length:=by omega
    have hx:=hs f[i] (List.getElem_mem hlt)
    rw [List.drop_eq_getElem_cons hlt] at hp
    have hp2 : peak (mx (mx p f[i]) (-f[i])) (f.drop (i+1))=peak 0 f:=hp
    have hm : 0≤mx (mx p f[i]) (-f[i])∧mx (mx p f[i]) (-f[i])≤1099511627776:=by
      unfold mx
      (repeat' split) <;> omega
    refine Ev.step (fun k=>?_) (ih (i+1) _ (by omega) (by omega) hm.1 hm.2 hp2)
    rw [limiter_Run_1.l0,if_pos (by omega),if_pos (by omega),if_pos (by omega),rd_at hlt,w64 (s:=-f[i]) (by omega) (by omega),w64 (s:=(i : Int)+1) (by omega) (by omega),show (i : Int)+1=((i+1 : Nat) : Int) from by omega]
theorem frame_ev {T R G : Int} (C : Int) (hok : LimOk T R G) (f : List Int) (hl : f.length≤8796093022208) (hs : Small f) (ys : List Int) (hy : ys.length≤8796093022208) :
    Ev (fun k=>limiter_Run_1.f k f T R G C ys) (T,R,frameG T R G f,C,ys ++ f.map (outV (frameG T R G f))):=
  first C hok f hl hs ys hy f.length 0 0 (by omega) (by omega) (by omega) (by omega) (by rw [List.drop_zero])

/-! ### all frames -/
def outs (c : Nat) (T R : Int) : Nat→Int→List Int→List Int×Int
  | 0,G,_=>([],G)
  | n+1,G,s=>((s.take c).map (outV (frameG T R G (s.take c))) ++ (outs c T R n (frameG T R G (s.take c)) (s.drop c)).1,(outs c T R n (frameG T R G (s.take c)) (s.drop c)).2)
theorem small_take {s : List Int} (h : Small s) (c : Nat) : Small (s.take c):=fun x hx=>h x (List.mem_of_mem_take hx)
theorem small_drop {s : List Int} (h : Small s) (c : Nat) : Small (s.drop c):=fun x hx=>h x (List.mem_of_mem_drop hx)
theorem loop {T R : Int} (C : Int) (c : Nat) (c1 : 1≤c) (c8 : c≤8) (s : List Int) (hl : s.length≤4398046511104) (hs : Small s) (n : Nat) : ∀ (i : Nat) (G : Int) (ys : List Int),LimOk T R G→s.length=i+n*c→ys.length=i→
    Ev (fun k=>limiter_Run.l1 k (c : Int) s (i : Int) T R G C ys) (C,ys ++ (outs c T R n G (s.drop i)).1,T,R,(outs c T R n G (s.drop i)).2,0):=by
  induction n with
  | zero=>
    intro i G ys hok hi hy
    refine Ev.step (f:=fun _=>some (C,ys ++ (outs c T R 0 G (s.drop i)).1,T,R,(outs c T R 0 G (s.drop i)).2,0)) (fun k=>?_) (Ev.now _)
    rw [limiter_Run.l1,if_neg (by omega)]
    simp [outs]
  | succ n ih=>
    intro i G ys hok hi hy
    have hmul : (n+1)*c=n*c+c:=Nat.succ_mul n c
    have hci : i+c≤s.length:=by omega
    have ht : (s.take (i+c)).drop i=(s.drop i).take c:=by
      rw [List.drop_take]
      congr 1
      omega
    have hf:=frame_ev C hok ((s.drop i).take c) (by rw [List.length_take,List.length_drop];omega) (small_take (small_drop hs i) c) ys (by omega)
    have h:=ih (i+c) (frameG T R G ((s.drop i).take c)) (ys ++ ((s.drop i).take c).map (outV (frameG T R G ((s.drop i).take c)))) (frameG_ok hok _) (by omega) (by rw [List.length_append,List.length_map,List.length_take,List.length_drop];omega)
    rw [← List.drop_drop,List.append_assoc] at h
    refine ev_call (fun k=>limiter_Run_1.f k ((s.drop i).take c) T R G C ys) ?fx (fun k=>?_) hf ?_
    rotate_left
    · rw [limiter_Run.l1,if_pos (by omega),if_pos (by omega),w64 (s:=(i : Int)+(c : Int)) (by omega) (by omega),if_pos (by omega),if_pos (by omega),show ((i : Int)+(c : Int)).toNat=i+c from by omega,Int.toNat_natCast,ht]
    · refine Ev.congr (fun k=>?_) h
      rw [show (i : Int)+(c : Int)=((i+c : Nat) : Int) from by omega]
theorem scan {T R G : Int} (c : Int) (s : List Int) (hl : s.length≤4611686018427387904) (r : Int×List Int×Int×Int×Int×Int) (hr : Small s→Ev (fun k=>limiter_Run.l1 k c s 0 T R G c []) r) (hb : ¬ Small s→r=(0,[],0,0,0,2)) (d : Nat) :
    ∀ i : Nat,i≤s.length→s.length - i=d→(∀ j : Nat,∀ h : j<s.length,j<i→-1099511627776≤s[j]∧s[j]≤1099511627776)→Ev (fun k=>limiter_Run.l0 k c s s (s.length : Int) (i : Int) T R G) r:=by
  induction d with
  | zero=>
    intro i hi hd hj
    refine Ev.step (fun k=>?_) (hr fun x hx=>?_)
    · rw [limiter_Run.l0,if_neg (by omega)]
    · obtain ⟨j,h,rfl⟩:=List.getElem_of_mem hx
      exact hj j h (by omega)
  | succ d ih=>
    intro i hi hd hj
    have hlt : i<s.length:=by omega
    by_cases h1 : s[i] < -1099511627776
    · rw [hb fun h=>by have:=(h s[i] (List.getElem_mem hlt)).1;omega]
      refine Ev.step (f:=fun _=>some (0,[],0,0,0,2)) (fun k=>?_) (Ev.now _)
      rw [limiter_Run.l0,if_pos (by omega),if_pos (by omega),if_pos (by omega),rd_at hlt,if_pos h1]
    · by_cases h2 : s[i]>1099511627776
      · rw [hb fun h=>by have:=(h s[i] (List.getElem_mem hlt)).2;omega]
        refine Ev.step (f:=fun _=>some (0,[],0,0,0,2)) (fun k=>?_) (Ev.now _)
        rw [limiter_Run.l0,if_pos (by omega),if_pos (by omega),if_pos (by omega),rd_at hlt,if_neg h1,if_pos h2]
      · refine Ev.step (fun k=>?_) (ih (i+1) (by omega) (by omega) fun j h hji=>?_)
        · rw [limiter_Run.l0,if_pos (by omega),if_pos (by omega),if_pos (by omega),rd_at hlt,if_neg h1,if_neg h2,w64 (s:=(i : Int)+1) (by omega) (by omega),show (i : Int)+1=((i+1 : Nat) : Int) from by omega]
        · by_cases e : j=i
          · subst e
            omega
          · exact hj j h (by omega)
/-- Channels and a length that a limiter takes. -/
def Fits (c : Int) (s : List Int) : Prop:=1≤c∧c≤8∧(s.length : Int) % c=0∧(s.length : Int) / c≤65536
instance (c : Int) (s : List Int) : Decidable (Fits c s):=by
  unfold Fits
  infer_instance
def runV (T R G c : Int) (s : List Int) : Int×List Int×Int×Int×Int×Int:=
  if LimOk T R G then if Fits c s∧Small s then (c,(outs c.toNat T R (s.length / c.toNat) G s).1,T,R,(outs c.toNat T R (s.length / c.toNat) G s).2,0) else (0,[],0,0,0,2) else (0,[],0,0,0,1)
theorem run_ev (T R G c : Int) (s : List Int) (hl : s.length≤4611686018427387904) : Ev (fun k=>limiter_Run.f k T R G c s) (runV T R G c s):=by
  by_cases hok : LimOk T R G
  · have bad : ¬ Fits c s→Ev (fun k=>limiter_Run.j0 k c s true T R G) (runV T R G c s):=fun h=>by
      refine Ev.step (f:=fun _=>some (0,[],0,0,0,2)) (fun k=>?_) ?_
      · rw [limiter_Run.j0,if_pos rfl]
      · unfold runV
        rw [if_pos hok,if_neg (fun h2=>h h2.1)]
        exact Ev.now _
    have hd : ∀ k,limiter_Run.f k T R G c s=if c<1 then (limiter_Run.j0 k c s true T R G) else (if c>8 then (limiter_Run.j0 k c s true T R G) else (if c=0 then (none) else (if ((s.length : Int) % c)=0 then (limiter_Run.j0 k c s (decide ((wrap64 ((s.length : Int) / c))>65536)) T R G) else (limiter_Run.j0 k c s true T R G)))):=fun k=>by
      unfold limiter_Run.f
      rw [valid_val,Option.bind_some,decide_eq_true hok,if_pos rfl]
    by_cases h1 : c<1
    · refine Ev.congr (fun k=>?_) (bad fun h=>by have:=h.1;omega)
      rw [hd,if_pos h1]
    · by_cases h2 : c>8
      · refine Ev.congr (fun k=>?_) (bad fun h=>by have:=h.2.1;omega)
        rw [hd,if_neg h1,if_pos h2]
      · by_cases h3 : (s.length : Int) % c=0
        · have hq : (s.length : Int) / c≤s.length:=Int.ediv_le_self _ (by omega)
          have hq0 : 0≤(s.length : Int) / c:=Int.ediv_nonneg (by omega) (by omega)
          by_cases h4 : (s.length : Int) / c>65536
          · refine Ev.congr (fun k=>?_) (bad fun h=>by have:=h.2.2.2;omega)
            rw [hd,if_neg h1,if_neg h2,if_neg (by omega),if_pos h3,w64 (by omega) (by omega),decide_eq_true h4]
          · have hfit : Fits c s:=⟨by omega,by omega,h3,by omega⟩
            obtain ⟨m,rfl⟩:=Int.eq_ofNat_of_zero_le (show 0≤c by omega)
            have hmod : s.length % m=0:=by
              have : ((s.length % m : Nat) : Int)=0:=by rw [Int.natCast_emod];exact h3
              omega
            have hdiv : s.length / m≤65536:=by
              have : ((s.length / m : Nat) : Int)≤65536:=by rw [Int.natCast_ediv];omega
              omega
            have hlen : s.length=0+s.length / m*m:=by
              have:=Nat.div_add_mod s.length m
              rw [Nat.mul_comm] at this
              omega
            have hsm : s.length≤4398046511104:=by
              have h8 : s.length / m*m≤65536*8:=Nat.mul_le_mul hdiv (by omega)
              omega
            refine Ev.congr (f:=fun k=>limiter_Run.j0 k (m : Int) s false T R G) (fun k=>?_) ?_
            · rw [hd,if_neg h1,if_neg h2,if_neg (by omega),if_pos h3,w64 (by omega) (by omega),decide_eq_false h4]
            · refine Ev.step (f:=fun k=>limiter_Run.l0 k (m : Int) s s (s.length : Int) 0 T R G) (fun k=>?_) ?_
              · rw [limiter_Run.j0,if_neg (by simp)]
              · refine scan (m : Int) s hl (runV T R G (m : Int) s) (fun hsmall=>?_) (fun hn=>?_) s.length 0 (by omega) (by omega) (fun j _ h=>by omega)
                · have h:=loop (T:=T) (R:=R) (m : Int) m (by omega) (by omega) s hsm hsmall (s.length / m) 0 G [] hok hlen rfl
                  rw [List.drop_zero,List.nil_append] at h
                  unfold runV
                  rw [if_pos hok,if_pos ⟨hfit,hsmall⟩,Int.toNat_natCast]
                  exact h
                · unfold runV
                  rw [if_pos hok,if_neg (fun h=>hn h.2)]
        · refine Ev.congr (fun k=>?_) (bad fun h=>h3 h.2.2.1)
          rw [hd,if_neg h1,if_neg h2,if_neg (by omega),if_neg h3]
  · refine Ev.congr (f:=fun _=>some (0,[],0,0,0,1)) (fun k=>?_) ?_
    · unfold limiter_Run.f
      rw [valid_val,Option.bind_some,decide_eq_false hok,if_neg (by simp)]
    · unfold runV
      rw [if_neg hok]
      exact Ev.now _

/-! ### what the outputs are -/
theorem tdiv_neg {a : Int} (h : a<0) : Int.tdiv a 65536 = -((-a) / 65536):=by
  rw [← Int.tdiv_eq_ediv_of_nonneg (a:=-a) (by omega),Int.neg_tdiv,Int.neg_neg]
/-- A sample of a frame: no louder than the threshold, nor than what came in; of the same sign. -/
def Held (T x y : Int) : Prop:=-T≤y∧y≤T∧(0≤x→0≤y∧y≤x)∧(x≤0→x≤y∧y≤0)
theorem outV_plain {T g x p : Int} (t1 : 1≤T) (t2 : T≤8388607) (g0 : 0≤g) (g1 : g≤65536) (hg : g≤need T p) (p0 : 0≤p) (x0 : -p≤x) (x1 : x≤p) : outV g x=Int.tdiv (x*g) 65536∧Held T x (Int.tdiv (x*g) 65536):=by
  have hn:=need_mul (t:=T) (p:=p) t1 p0
  have hpg : p*g≤p*need T p:=Int.mul_le_mul_of_nonneg_left hg p0
  have key : ∀ z : Int,0≤z→z≤p→0≤z*g / 65536∧z*g / 65536≤T∧z*g / 65536≤z:=fun z z0 z1=>by
    have a : z*g≤p*g:=Int.mul_le_mul_of_nonneg_right z1 g0
    have b : z*g≤z*65536:=Int.mul_le_mul_of_nonneg_left g1 z0
    have c : 0≤z*g:=Int.mul_nonneg z0 g0
    omega
  by_cases hx : 0≤x
  · have hk:=key x hx x1
    have e : Int.tdiv (x*g) 65536=x*g / 65536:=Int.tdiv_eq_ediv_of_nonneg (Int.mul_nonneg hx g0)
    rw [e]
    have h0 : x=0→x*g / 65536=0:=fun h=>by rw [h,Int.zero_mul];rfl
    refine ⟨?_,by omega,hk.2.1,fun _=>⟨hk.1,hk.2.2⟩,fun h=>?_⟩
    · unfold outV mx mn
      rw [e]
      (repeat' split) <;> omega
    · have:=h0 (by omega)
      omega
  · have hk:=key (-x) (by omega) (by omega)
    have e : Int.tdiv (x*g) 65536 = -((-x)*g / 65536):=by
      by_cases h : x*g<0
      · rw [tdiv_neg h,Int.neg_mul]
      · have h2 : x*g≤0:=by
          have:=Int.mul_nonneg (show (0 : Int)≤-x by omega) g0
          rw [Int.neg_mul] at this
          omega
        have h3 : x*g=0:=by omega
        rw [Int.neg_mul,h3]
        rfl
    rw [e]
    refine ⟨?_,by omega,by omega,fun h=>by omega,fun _=>by omega⟩
    unfold outV mx mn
    rw [e]
    (repeat' split) <;> omega
theorem outV_mono {g h x : Int} (g0 : 0≤g) (hh : g≤h) : (0≤x→outV g x≤outV h x)∧(x≤0→outV h x≤outV g x):=by
  have sm : ∀ a b : Int,a≤b→mx (-8388608) (mn 8388607 a)≤mx (-8388608) (mn 8388607 b):=fun a b hab=>by
    unfold mx mn
    (repeat' split) <;> omega
  have tm : ∀ a b : Int,a≤b→Int.tdiv a 65536≤Int.tdiv b 65536:=fun a b hab=>by
    by_cases ha : a<0
    · by_cases hb : b<0
      · rw [tdiv_neg ha,tdiv_neg hb]
        omega
      · rw [tdiv_neg ha,Int.tdiv_eq_ediv_of_nonneg (a:=b) (by omega)]
        omega
    · rw [Int.tdiv_eq_ediv_of_nonneg (a:=a) (by omega),Int.tdiv_eq_ediv_of_nonneg (a:=b) (by omega)]
      omega
  refine ⟨fun hx=>sm _ _ (tm _ _ (Int.mul_le_mul_of_nonneg_left hh hx)),fun hx=>sm _ _ (tm _ _ ?_)⟩
  have:=Int.mul_le_mul_of_nonneg_left hh (show (0 : Int)≤-x by omega)
  rw [Int.neg_mul,Int.neg_mul] at this
  omega

/-- Two lists, place by place. -/
def Along (P : Int→Int→Prop) (xs ys : List Int) : Prop:=xs.length=ys.length∧∀ i : Nat,∀ h : i<xs.length,∀ h2 : i<ys.length,P xs[i] ys[i]
theorem along_nil (P : Int→Int→Prop) : Along P [] []:=⟨rfl,fun i h=>absurd h (by simp)⟩
theorem along_append {P : Int→Int→Prop} {a b c d : List Int} (h : Along P a b) (k : Along P c d) : Along P (a ++ c) (b ++ d):=by
  refine ⟨by rw [List.length_append,List.length_append,h.1,k.1],fun i hi hi2=>?_⟩
  by_cases hlt : i<a.length
  · rw [List.getElem_append_left hlt,List.getElem_append_left (by rw [← h.1];exact hlt)]
    exact h.2 i hlt _
  · rw [List.getElem_append_right (by omega),List.getElem_append_right (by rw [← h.1];omega)]
    have e:=h.1
    have h2:=k.2 (i - a.length) (by rw [List.length_append] at hi;omega) (by rw [List.length_append] at hi2;omega)
    simp only [e] at h2 ⊢
    exact h2
theorem along_map {P : Int→Int→Prop} {xs : List Int} {f : Int→Int} (h : ∀ x ∈ xs,P x (f x)) : Along P xs (xs.map f):=by
  refine ⟨by rw [List.length_map],fun i hi _=>?_⟩
  rw [List.getElem_map]
  exact h _ (List.getElem_mem hi)
theorem outs_held {T R : Int} (c : Nat) (n : Nat) : ∀ (G : Int) (s : List Int),LimOk T R G→s.length=n*c→Along (Held T) s (outs c T R n G s).1∧LimOk T R (outs c T R n G s).2:=by
  induction n with
  | zero=>
    intro G s hok hs
    have : s=[]:=List.eq_nil_of_length_eq_zero (by omega)
    subst this
    exact ⟨along_nil _,hok⟩
  | succ n ih=>
    intro G s hok hs
    rw [Nat.succ_mul] at hs
    have h:=ih (frameG T R G (s.take c)) (s.drop c) (frameG_ok hok _) (by rw [List.length_drop];omega)
    refine ⟨?_,h.2⟩
    have h1 : Along (Held T) (s.take c) ((s.take c).map (outV (frameG T R G (s.take c)))):=along_map fun x hx=>by
      have hg:=frameG_range hok (s.take c)
      have hp:=peak_mem (s.take c) 0 x hx
      have ho:=outV_plain hok.1 hok.2.1 hg.1 hg.2.1 hg.2.2 (peak_ge _ 0) hp.1 hp.2
      rw [ho.1]
      exact ho.2
    have h2:=along_append h1 h.1
    rw [List.take_append_drop] at h2
    exact h2
theorem outs_length {T R : Int} (c : Nat) (n : Nat) : ∀ (G : Int) (s : List Int),s.length=n*c→(outs c T R n G s).1.length=n*c:=by
  induction n with
  | zero=>intro G s _;simp [outs]
  | succ n ih=>
    intro G s hs
    rw [Nat.succ_mul] at hs ⊢
    have h:=ih (frameG T R G (s.take c)) (s.drop c) (by rw [List.length_drop];omega)
    simp only [outs,List.length_append,List.length_map,List.length_take,h]
    omega
theorem fits_of {c n : Nat} {s : List Int} (c1 : 1≤c) (c8 : c≤8) (hs : s.length=n*c) (hn : n≤65536) : Fits (c : Int) s∧s.length / c=n:=by
  have h : s.length / c=n:=by rw [hs,Nat.mul_div_cancel _ (by omega)]
  refine ⟨⟨by omega,by omega,?_,?_⟩,h⟩
  · rw [hs,Int.natCast_mul]
    exact Int.mul_emod_left _ _
  · have : ((s.length / c : Nat) : Int)≤65536:=by rw [h];omega
    rw [Int.natCast_ediv] at this
    exact this
/-- A run of sums that a limiter takes. -/
theorem run_good {T R G : Int} {c n : Nat} {s : List Int} (hok : LimOk T R G) (c1 : 1≤c) (c8 : c≤8) (hs : s.length=n*c) (hn : n≤65536) (hsm : Small s) :
    Ev (fun k=>limiter_Run.f k T R G (c : Int) s) ((c : Int),(outs c T R n G s).1,T,R,(outs c T R n G s).2,0):=by
  have hf:=fits_of c1 c8 hs hn
  have hl : s.length≤4611686018427387904:=by
    have : n*c≤65536*8:=Nat.mul_le_mul hn c8
    omega
  have h:=run_ev T R G (c : Int) s hl
  unfold runV at h
  rw [if_pos hok,if_pos ⟨hf.1,hsm⟩,Int.toNat_natCast,hf.2] at h
  exact h
end Go.Proofs.Ytcnmemcclhahnaa.LimL
