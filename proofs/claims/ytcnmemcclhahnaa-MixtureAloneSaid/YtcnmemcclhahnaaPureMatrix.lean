/- Plain laws of matrices: what the printed functions of package matrix compute, in numbers and lists. -/
import Derived.Test.YtcnmemcclhahnaaPureGainRun
import Derived.Test.YtcnmemcclhahnaaQT4
import Derived.Test.YtcnmemcclhahnaaQT4
import Derived.Test.YtcnmemcclhahnaaQT5
set_option linter.unusedVariables false
set_option linter.unusedSimpArgs false
namespace Go.Proofs.Ytcnmemcclhahnaa.MatL
open Go.RowKit Go.Proofs.Ytcnmemcclhahnaa.QT Go.Proofs.Ytcnmemcclhahnaa.GainL Go.Proofs.YtcnmemcclhahnaaW.PrintWords Go.Proofs.YtcnmemcclhahnaaW.PrintLast

/-! ### which matrices are valid -/
def InC (x : Int) : Prop:=-131072≤x∧x≤131072
instance (x : Int) : Decidable (InC x):=by
  unfold InC
  infer_instance
def allC (l : List Int) : Bool:=l.all fun x=>decide (InC x)
theorem allC_iff {l : List Int} : allC l=true↔∀ x ∈ l,InC x:=by simp [allC]
theorem allC_cons (x : Int) (l : List Int) : allC (x :: l)=(decide (InC x) && allC l):=rfl
def MatOk (i o : Int) (l : List Int) : Prop:=1≤i∧i≤8∧1≤o∧o≤8∧(l.length : Int)=i*o∧allC l=true
instance (i o : Int) (l : List Int) : Decidable (MatOk i o l):=by
  unfold MatOk
  infer_instance
theorem matvalid_loop (l : List Int) (hl : l.length≤4611686018427387904) (d : Nat) : ∀ i : Nat,i≤l.length→l.length - i=d→
    Ev (fun k=>matrix_Valid.l0 k l (l.length : Int) (i : Int)) (allC (l.drop i)):=by
  induction d with
  | zero=>
    intro i hi hd
    refine Ev.step (f:=fun _=>some (allC (l.drop i))) (fun k=>?_) (Ev.now _)
    rw [matrix_Valid.l0,if_neg (by omega),List.drop_eq_nil_of_le (by omega)]
    rfl
  | succ d ih=>
    intro i hi hd
    have hlt : i<l.length:=by omega
    rw [List.drop_eq_getElem_cons hlt,allC_cons]
    by_cases h1 : l[i] < -131072
    · rw [decide_eq_false (fun h : InC l[i]=>by have:=h.1;omega),Bool.false_and]
      refine Ev.step (f:=fun _=>some false) (fun k=>?_) (Ev.now _)
      rw [matrix_Valid.l0,if_pos (by omega),if_pos (by omega),if_pos (by omega),GainL.rd_at hlt,if_pos h1]
    · by_cases h2 : l[i]>131072
      · rw [decide_eq_false (fun h : InC l[i]=>by have:=h.2;omega),Bool.false_and]
        refine Ev.step (f:=fun _=>some false) (fun k=>?_) (Ev.now _)
        rw [matrix_Valid.l0,if_pos (by omega),if_pos (by omega),if_pos (by omega),GainL.rd_at hlt,if_neg h1,if_pos h2]
      · rw [decide_eq_true (show InC l[i] from ⟨by omega,by omega⟩),Bool.true_and]
        refine Ev.step (fun k=>?_) (ih (i+1) (by omega) (by omega))
        rw [matrix_Valid.l0,if_pos (by omega),if_pos (by omega),if_pos (by omega),GainL.rd_at hlt,if_neg h1,if_neg h2,w64 (by omega) (by omega)]
        rw [show (i : Int)+1=((i+1 : Nat) : Int) from by omega]
theorem matvalid_ev (i o : Int) (l : List Int) (hl : l.length≤4611686018427387904) : Ev (fun k=>matrix_Valid.f k i o l) (decide (MatOk i o l)):=by
  have bad : ∀ h : ¬ MatOk i o l,Ev (fun k=>matrix_Valid.j0 k true i o l) (decide (MatOk i o l)):=fun h=>by
    rw [decide_eq_false h]
    refine Ev.step (f:=fun _=>some false) (fun k=>?_) (Ev.now _)
    rw [matrix_Valid.j0,if_pos rfl]
  by_cases h1 : i<1
  · exact Ev.congr (fun k=>by unfold matrix_Valid.f;rw [if_pos h1]) (bad (fun h=>by have:=h.1;omega))
  · by_cases h2 : i>8
    · exact Ev.congr (fun k=>by unfold matrix_Valid.f;rw [if_neg h1,if_pos h2]) (bad (fun h=>by have:=h.2.1;omega))
    · by_cases h3 : o<1
      · exact Ev.congr (fun k=>by unfold matrix_Valid.f;rw [if_neg h1,if_neg h2,if_pos h3]) (bad (fun h=>by have:=h.2.2.1;omega))
      · by_cases h4 : o>8
        · exact Ev.congr (fun k=>by unfold matrix_Valid.f;rw [if_neg h1,if_neg h2,if_neg h3,if_pos h4]) (bad (fun h=>by have:=h.2.2.2.1;omega))
        · have hp : 0≤i*o∧i*o≤64:=by
            have a : i*o≤8*o:=Int.mul_le_mul_of_nonneg_right (by omega) (by omega)
            have b:=Int.mul_nonneg (show 0≤i by omega) (show 0≤o by omega)
            omega
          have hd : ∀ k,matrix_Valid.f k i o l=matrix_Valid.j0 k ((l.length : Int) != i*o) i o l:=fun k=>by
            unfold matrix_Valid.f
            rw [if_neg h1,if_neg h2,if_neg h3,if_neg h4,w64 (by omega) (by omega)]
          by_cases h5 : (l.length : Int)=i*o
          · have e : decide (MatOk i o l)=allC (l.drop 0):=by
              rw [List.drop_zero,Bool.eq_iff_iff,decide_eq_true_iff]
              exact ⟨fun h=>h.2.2.2.2.2,fun h=>⟨by omega,by omega,by omega,by omega,h5,h⟩⟩
            rw [e]
            refine Ev.congr (f:=fun k=>matrix_Valid.j0 k false i o l) (fun k=>?_) (Ev.step (fun k=>?_) (matvalid_loop l hl l.length 0 (by omega) (by omega)))
            · rw [hd,bne_eq_false_iff_eq.mpr h5]
            · rw [matrix_Valid.j0,if_neg (by simp)]
              rfl
          · refine Ev.congr (fun k=>?_) (bad (fun h=>h5 h.2.2.2.2.1))
            rw [hd,bne_iff_ne.mpr h5]

/-! ### rows -/
def rowsV (i o : Nat) (l : List Int) : List (List Int):=(List.range o).map fun r=>(l.drop (r*i)).take i
theorem rowsV_length (i o : Nat) (l : List Int) : (rowsV i o l).length=o:=by simp [rowsV]
theorem rowsV_get {i o : Nat} {l : List Int} {r : Nat} (h : r<(rowsV i o l).length) : (rowsV i o l)[r]=(l.drop (r*i)).take i:=by simp [rowsV]
def someRows (i o : Nat) (l : List Int) (m : Nat) : List (List Int):=(List.range o).map fun r=>if r<m then (l.drop (r*i)).take i else []
theorem someRows_set {i o : Nat} {l : List Int} {m : Nat} : (someRows i o l m).set m ((l.drop (m*i)).take i)=someRows i o l (m+1):=by
  unfold someRows
  apply List.ext_getElem
  · simp
  · intro r h1 h2
    rw [List.getElem_set]
    by_cases h : m=r
    · subst h
      simp
    · rw [if_neg h]
      simp only [List.getElem_map,List.getElem_range]
      by_cases h3 : r<m
      · rw [if_pos h3,if_pos (by omega)]
      · rw [if_neg h3,if_neg (by omega)]
theorem someRows_zero (i o : Nat) (l : List Int) : someRows i o l 0=List.replicate o []:=by
  unfold someRows
  apply List.ext_getElem <;> simp
theorem someRows_all (i o : Nat) (l : List Int) : someRows i o l o=rowsV i o l:=by
  unfold someRows rowsV
  apply List.map_congr_left
  intro r hr
  rw [if_pos (List.mem_range.1 hr)]
theorem rows_ev {i o : Nat} {l : List Int} (i8 : i≤8) (o8 : o≤8) (hl : l.length=i*o) : Ev (fun k=>matrix_rows.f k (i : Int) (o : Int) l) (rowsV i o l):=by
  have hio : i*o≤8*8:=Nat.mul_le_mul i8 o8
  have loop : ∀ d m : Nat,m≤o→o - m=d→Ev (fun k=>matrix_rows.l0 k (someRows i o l m) (o : Int) (m : Int) (i : Int) (o : Int) l) (rowsV i o l):=by
    intro d
    induction d with
    | zero=>
      intro m hm hd
      have : m=o:=by omega
      subst this
      refine Ev.step (f:=fun _=>some (rowsV i m l)) (fun k=>?_) (Ev.now _)
      rw [matrix_rows.l0,if_neg (by omega),someRows_all]
    | succ d ih=>
      intro m hm hd
      have h1 : (m+1)*i≤o*i:=Nat.mul_le_mul_right i (by omega)
      have h2 : (m+1)*i=m*i+i:=by rw [Nat.add_mul,Nat.one_mul]
      have h3 : o*i=i*o:=Nat.mul_comm o i
      refine Ev.step (fun k=>?_) (ih (m+1) (by omega) (by omega))
      rw [matrix_rows.l0,if_pos (by omega),w64 (s:=(m : Int)+1) (by omega) (by omega),show (m : Int)+1=((m+1 : Nat) : Int) from by omega,← Int.natCast_mul,← Int.natCast_mul,w64 (by omega) (by omega),w64 (by omega) (by omega),if_pos (by omega),if_pos (by omega),if_pos (by omega),if_pos (by omega),if_pos (by simp [someRows];omega),Int.toNat_natCast,Int.toNat_natCast,Int.toNat_natCast,List.drop_take,show (m+1)*i - m*i=i from by omega,someRows_set]
  refine Ev.congr (fun k=>?_) (loop o 0 (by omega) (by omega))
  unfold matrix_rows.f
  rw [if_pos (by omega),Int.toNat_natCast,if_pos (by omega),Option.bind_some,List.length_replicate,someRows_zero]
  rfl

/-! ### a block through a matrix -/
def dotFrom : Int→List Int→List Int→Int
  | a,r :: rs,f :: fs=>dotFrom (a+r*f) rs fs
  | a,_,_=>a
def cell (row f : List Int) : Int:=satV ((dotFrom 0 row f+16384) / 32768)
theorem cell_range (row f : List Int) : InS (cell row f):=satV_range _
def appl (rows : List (List Int)) (c : Nat) : Nat→List Int→List Int
  | 0,_=>[]
  | n+1,d=>(rows.map fun row=>cell row (d.take c)) ++ appl rows c n (d.drop c)
theorem appl_length (rows : List (List Int)) (c n : Nat) : ∀ d : List Int,(appl rows c n d).length=n*rows.length:=by
  induction n with
  | zero=>intro d;simp [appl]
  | succ n ih=>
    intro d
    rw [appl,List.length_append,ih,List.length_map,Nat.add_mul,Nat.one_mul]
    omega
theorem appl_range (rows : List (List Int)) (c n : Nat) : ∀ d : List Int,∀ x ∈ appl rows c n d,InS x:=by
  induction n with
  | zero=>intro d x hx;cases hx
  | succ n ih=>
    intro d x hx
    rcases List.mem_append.1 hx with h|h
    · obtain ⟨row,_,rfl⟩:=List.mem_map.1 h
      exact cell_range _ _
    · exact ih _ x h
theorem prod_small {a b : Int} (ha : InC a) (hb : InS b) : -1099511627776≤a*b∧a*b≤1099511627776:=by
  obtain ⟨a0,a1⟩:=ha
  obtain ⟨b0,b1⟩:=hb
  have h1 : (a+131072)*(b+8388608)=a*b+8388608*a+131072*b+1099511627776:=by
    rw [Int.add_mul,Int.mul_add,Int.mul_add,Int.mul_comm a 8388608]
    omega
  have h2 : (a+131072)*(b+8388608)≤262144*(b+8388608):=Int.mul_le_mul_of_nonneg_right (by omega) (by omega)
  have h3:=Int.mul_nonneg (show 0≤a+131072 by omega) (show 0≤b+8388608 by omega)
  have h4 : (131072 - a)*(b+8388608)=131072*b - a*b+1099511627776 - 8388608*a:=by
    rw [Int.sub_mul,Int.mul_add,Int.mul_add,Int.mul_comm a 8388608]
    omega
  have h5:=Int.mul_nonneg (show 0≤131072 - a by omega) (show 0≤b+8388608 by omega)
  have h6 : (a+131072)*(8388608 - b)=8388608*a - a*b+1099511627776 - 131072*b:=by
    rw [Int.add_mul,Int.mul_sub,Int.mul_sub,Int.mul_comm a 8388608]
    omega
  have h7:=Int.mul_nonneg (show 0≤a+131072 by omega) (show 0≤8388608 - b by omega)
  have h8 : (131072 - a)*(8388608 - b)=1099511627776 - 131072*b - 8388608*a+a*b:=by
    rw [Int.sub_mul,Int.mul_sub,Int.mul_sub,Int.mul_comm a 8388608]
    omega
  have h9:=Int.mul_nonneg (show 0≤131072 - a by omega) (show 0≤8388608 - b by omega)
  omega
section
variable {I O : Int} {coef data : List Int} {c ch : Int} {rows : List (List Int)} {at_ : Int}
theorem dot_loop (rs : List (List Int)) (n r : Int) (row f : List Int) (h8 : f.length≤8) (hrl : row.length=f.length) (hrow : ∀ x ∈ row,InC x) (hf : ∀ x ∈ f,InS x) (ys : List Int) (hy : ys.length<35184372088832) (res : Int×List Int×Int) (D : Int)
    (hnext : Ev (fun k=>matrix_Apply.l1 k rows at_ rs n (wrap64 (r+1)) I O coef c data ch (ys ++ [satV ((D+16384) / 32768)])) res) (d : Nat) : ∀ (i : Nat) (a : Int),i≤f.length→f.length - i=d→-1099511627776*(i : Int)≤a→a≤1099511627776*(i : Int)→dotFrom a (row.drop i) (f.drop i)=D→
    Ev (fun k=>matrix_Apply.l2 k rows at_ row a rs n r f (f.length : Int) (i : Int) I O coef c data ch ys) res:=by
  induction d with
  | zero=>
    intro i a hi hd a0 a1 hD
    rw [List.drop_eq_nil_of_le (show f.length≤i by omega),List.drop_eq_nil_of_le (show row.length≤i by omega)] at hD
    have hD : a=D:=hD
    refine Ev.step (fun k=>?_) hnext
    rw [matrix_Apply.l2,if_neg (by omega),w64 (s:=a+16384) (by omega) (by omega),hD]
    unfold sample_Sat.f
    rw [Option.bind_some,if_pos hy]
    rfl
  | succ d ih=>
    intro i a hi hd a0 a1 hD
    have hlt : i<f.length:=by omega
    have hltr : i<row.length:=by omega
    have hx:=hf f[i] (List.getElem_mem hlt)
    have hr:=hrow row[i] (List.getElem_mem hltr)
    have hp:=prod_small hr hx
    rw [List.drop_eq_getElem_cons hlt,List.drop_eq_getElem_cons hltr] at hD
    have hD2 : dotFrom (a+row[i]*f[i]) (row.drop (i+1)) (f.drop (i+1))=D:=hD
    have hx1:=hx.1
    have hx2:=hx.2
    refine Ev.step (fun k=>?_) (ih (i+1) (a+row[i]*f[i]) (by omega) (by omega) (by omega) (by omega) hD2)
    rw [matrix_Apply.l2,if_pos (by omega),if_pos (by omega),if_pos (by omega),if_pos (by omega),GainL.rd_at hlt,GainL.rd_at hltr,w64 (s:=f[i]) (by omega) (by omega),w64 (s:=row[i]*f[i]) (by omega) (by omega),w64 (s:=a+row[i]*f[i]) (by omega) (by omega),w64 (s:=(i : Int)+1) (by omega) (by omega),show (i : Int)+1=((i+1 : Nat) : Int) from by omega]
end
theorem rd_rows {ps : List (List Int)} {i : Nat} (h : i<ps.length) : rd_L2 ps (i : Int)=ps[i]:=by
  simp [rd_L2,List.getD_eq_getElem?_getD,h]
theorem rows_loop {O : Int} {coef data : List Int} {c ch : Int} {i a : Nat} {rows : List (List Int)} (i1 : 1≤i) (i8 : i≤8) (hrows : rows.length≤8) (hrl : ∀ row ∈ rows,row.length=i∧∀ x ∈ row,InC x) (hd : a+i≤data.length) (hdl : data.length≤1000000) (hs : ∀ x ∈ data,InS x) (res : Int×List Int×Int) (d : Nat) :
    ∀ (r : Nat) (ys : List Int),r≤rows.length→rows.length - r=d→ys.length≤100000000+r→
    Ev (fun k=>matrix_Apply.l0 k rows ((a+i : Nat) : Int) (i : Int) O coef c data ch (ys ++ ((rows.drop r).map fun row=>cell row ((data.drop a).take i)))) res→
    Ev (fun k=>matrix_Apply.l1 k rows (a : Int) rows (rows.length : Int) (r : Int) (i : Int) O coef c data ch ys) res:=by
  have hfl : ((data.drop a).take i).length=i:=by
    rw [List.length_take,List.length_drop]
    omega
  have hcut : (data.take (a+i)).drop a=(data.drop a).take i:=by
    rw [List.drop_take]
    congr 1
    omega
  induction d with
  | zero=>
    intro r ys hr hdd hy h
    rw [List.drop_eq_nil_of_le (show rows.length≤r by omega),List.map_nil,List.append_nil] at h
    refine Ev.step (fun k=>?_) h
    rw [matrix_Apply.l1,if_neg (by omega),w64 (s:=(a : Int)+(i : Int)) (by omega) (by omega),show (a : Int)+(i : Int)=((a+i : Nat) : Int) from by omega]
  | succ d ih=>
    intro r ys hr hdd hy h
    have hlt : r<rows.length:=by omega
    have hrow:=hrl rows[r] (List.getElem_mem hlt)
    rw [List.drop_eq_getElem_cons hlt,List.map_cons,show ∀ (u : Int) (v : List Int),ys ++ u :: v=(ys ++ [u]) ++ v from fun u v=>by simp] at h
    have h2:=ih (r+1) (ys ++ [cell rows[r] ((data.drop a).take i)]) (by omega) (by omega) (by rw [List.length_append];simp only [List.length_cons,List.length_nil];omega) h
    have h3:=dot_loop (I:=(i : Int)) (O:=O) (coef:=coef) (data:=data) (c:=c) (ch:=ch) (rows:=rows) (at_:=(a : Int)) rows (rows.length : Int) (r : Int) rows[r] ((data.drop a).take i) (by omega) (by rw [hfl];exact hrow.1) hrow.2 (fun x hx=>hs x (List.mem_of_mem_drop (List.mem_of_mem_take hx))) ys (by omega) res (dotFrom 0 rows[r] ((data.drop a).take i)) (by
      rw [w64 (s:=(r : Int)+1) (by omega) (by omega),show (r : Int)+1=((r+1 : Nat) : Int) from by omega]
      exact h2) ((data.drop a).take i).length 0 0 (by omega) (by omega) (by omega) (by omega) (by rw [List.drop_zero,List.drop_zero])
    refine Ev.step (fun k=>?_) h3
    rw [matrix_Apply.l1,if_pos (by omega),if_pos (by omega),if_pos (by omega),if_pos (by omega),w64 (s:=(a : Int)+(i : Int)) (by omega) (by omega),if_pos (by omega),if_pos (by omega),show ((a : Int)+(i : Int)).toNat=a+i from by omega,Int.toNat_natCast,hcut,rd_rows hlt]
    rfl
theorem frames_loop {O : Int} {coef data : List Int} {c ch : Int} {i : Nat} {rows : List (List Int)} (i1 : 1≤i) (i8 : i≤8) (hrows : rows.length≤8) (hrl : ∀ row ∈ rows,row.length=i∧∀ x ∈ row,InC x) (hdl : data.length≤1000000) (hs : ∀ x ∈ data,InS x) (n : Nat) :
    ∀ (a : Nat) (ys : List Int),data.length=a+n*i→ys.length≤8*a→
    Ev (fun k=>matrix_Apply.l0 k rows (a : Int) (i : Int) O coef c data ch ys) (ch,ys ++ appl rows i n (data.drop a),0):=by
  induction n with
  | zero=>
    intro a ys ha hy
    refine Ev.step (f:=fun _=>some (ch,ys ++ appl rows i 0 (data.drop a),0)) (fun k=>?_) (Ev.now _)
    rw [matrix_Apply.l0,if_neg (by omega)]
    simp [appl]
  | succ n ih=>
    intro a ys ha hy
    have hmul : (n+1)*i=n*i+i:=Nat.succ_mul n i
    have h:=ih (a+i) (ys ++ (rows.map fun row=>cell row ((data.drop a).take i))) (by omega) (by rw [List.length_append,List.length_map];omega)
    rw [← List.drop_drop,List.append_assoc] at h
    have h2:=rows_loop (O:=O) (coef:=coef) (c:=c) (ch:=ch) (a:=a) i1 i8 hrows hrl (by omega) hdl hs _ rows.length 0 ys (by omega) (by omega) (by omega) (by rw [List.drop_zero];exact h)
    refine Ev.step (fun k=>?_) h2
    rw [matrix_Apply.l0,if_pos (by omega)]
    rfl
theorem rowsV_ok {i o : Nat} {l : List Int} (hl : l.length=i*o) (hc : ∀ x ∈ l,InC x) : ∀ row ∈ rowsV i o l,row.length=i∧∀ x ∈ row,InC x:=by
  intro row hrow
  obtain ⟨r,hr,rfl⟩:=List.getElem_of_mem hrow
  rw [rowsV_get hr]
  rw [rowsV_length] at hr
  have h1 : (r+1)*i≤o*i:=Nat.mul_le_mul_right i (by omega)
  have h2 : (r+1)*i=r*i+i:=by rw [Nat.add_mul,Nat.one_mul]
  have h3 : o*i=i*o:=Nat.mul_comm o i
  refine ⟨by rw [List.length_take,List.length_drop];omega,fun x hx=>hc x (List.mem_of_mem_drop (List.mem_of_mem_take hx))⟩
theorem apply_ev {i o n : Nat} {coef data : List Int} (hm : MatOk (i : Int) (o : Int) coef) (hb : BlockOk (i : Int) data) (hn : data.length=n*i) : Ev (fun k=>matrix_Apply.f k (i : Int) (o : Int) coef (i : Int) data) ((o : Int),appl (rowsV i o coef) i n data,0):=by
  obtain ⟨m1,m2,m3,m4,m5,m6⟩:=id hm
  obtain ⟨b1,b2,b3,b4,b5⟩:=id hb
  have hcl : coef.length=i*o:=by rw [← Int.natCast_mul] at m5;omega
  have hio : i*o≤8*8:=Nat.mul_le_mul (by omega) (by omega)
  have hdl : data.length≤524288:=by
    have : ((data.length / i : Nat) : Int)≤65536:=by rw [Int.natCast_ediv];exact b4
    rw [hn,Nat.mul_div_cancel n (by omega)] at this
    have:=Nat.mul_le_mul (show n≤65536 by omega) (show i≤8 by omega)
    omega
  have hv:=matvalid_ev (i : Int) (o : Int) coef (by omega)
  rw [decide_eq_true hm] at hv
  have hbv:=block_ev (i : Int) data (by omega)
  rw [decide_eq_true hb] at hbv
  refine ev_head (fun k=>matrix_Valid.f k (i : Int) (o : Int) coef) (fun k t=>_) (fun k=>rfl) hv ?_
  refine ev_head (fun k=>sample_Valid.f k (i : Int) data) (fun k t=>_) (fun k=>by rw [if_pos rfl]) hbv ?_
  refine ev_call (fun k=>matrix_rows.f k (i : Int) (o : Int) coef) ?gx (fun k=>?_) (rows_ev (by omega) (by omega) hcl) ?_
  rotate_left
  · rw [matrix_Apply.j0,if_neg (by simp),if_pos rfl]
  · have h:=frames_loop (O:=(o : Int)) (coef:=coef) (c:=(i : Int)) (ch:=(o : Int)) (by omega) (by omega) (by rw [rowsV_length];omega) (rowsV_ok hcl (allC_iff.1 m6)) (by omega) (allS_iff.1 b5) n 0 [] (by omega) (by simp)
    rw [List.drop_zero,List.nil_append] at h
    exact h
end Go.Proofs.Ytcnmemcclhahnaa.MatL
