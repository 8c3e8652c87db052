/- Plain laws of the inputs of a mixture that the dice make: they are valid. -/
import Derived.Test.YtcnmemcclhahnaaPureMix
import Derived.Test.YtcnmemcclhahnaaPureDiceBlock
import Derived.Test.YtcnmemcclhahnaaPureDiceRamp
import Derived.Test.YtcnmemcclhahnaaQT13
import Derived.Test.YtcnmemcclhahnaaQT10
import Derived.Test.YtcnmemcclhahnaaQT15
import Derived.Test.YtcnmemcclhahnaaQT9
import Derived.Test.YtcnmemcclhahnaaQT15
import Derived.Test.YtcnmemcclhahnaaQT15
import Derived.Test.YtcnmemcclhahnaaQT11
set_option linter.unusedVariables false
set_option linter.unusedSimpArgs false
namespace Go.Proofs.Ytcnmemcclhahnaa.MadeL
open Go.RowKit Go.Proofs.Ytcnmemcclhahnaa.QT Go.Proofs.Ytcnmemcclhahnaa.GainL Go.Proofs.Ytcnmemcclhahnaa.MatL Go.Proofs.Ytcnmemcclhahnaa.MixL Go.Proofs.Ytcnmemcclhahnaa.BlockL Go.Proofs.Ytcnmemcclhahnaa.DiceL Go.Proofs.YtcnmemcclhahnaaW.PrintWords Go.Proofs.YtcnmemcclhahnaaW.PrintLast

theorem sane_ev : Ev (fun k=>soundservicelaw23_sane.f k) true:=Ev.of (fun k=>soundservicelaw23_sane.mono k) (k:=24) (by decide +kernel)

/-! ### matrices -/
theorem coefs_ok (y : Int) (hy : InC y) : ∀ i : Fin 8,InC (rd ([0,32768,23170,(-32768),131072,(-131072),1,y] : List Int) (i.val : Int)):=by
  intro i
  have h : i=0∨i=1∨i=2∨i=3∨i=4∨i=5∨i=6∨i=7:=by
    have:=i.isLt
    have e : ∀ j : Fin 8,j=0∨j=1∨j=2∨j=3∨j=4∨j=5∨j=6∨j=7:=by decide
    exact e i
  rcases h with rfl|rfl|rfl|rfl|rfl|rfl|rfl|rfl
  · exact (show InC 0 from ⟨by decide,by decide⟩)
  · exact (show InC 32768 from ⟨by decide,by decide⟩)
  · exact (show InC 23170 from ⟨by decide,by decide⟩)
  · exact (show InC (-32768) from ⟨by decide,by decide⟩)
  · exact (show InC 131072 from ⟨by decide,by decide⟩)
  · exact (show InC (-131072) from ⟨by decide,by decide⟩)
  · exact (show InC 1 from ⟨by decide,by decide⟩)
  · exact hy
theorem matrix_loop (i o : Nat) (hio : i*o≤100) (d : Nat) : ∀ (m : Nat) (xs l : List Int),m≤i*o→i*o - m=d→xs.length=m→allC xs=true→Dz l→
    ∃ ys l',Ev (fun k=>soundservicemade_Matrix.l0 k (i : Int) (o : Int) (m : Int) l (i : Int) (o : Int) xs) ((i : Int),(o : Int),ys,l')∧Dz l'∧ys.length=i*o∧allC ys=true:=by
  have hm : wrap64 ((i : Int)*(o : Int))=((i*o : Nat) : Int):=by rw [← Int.natCast_mul,w64 (by omega) (by omega)]
  induction d with
  | zero=>
    intro m xs l hm1 hd hx hs h
    refine ⟨xs,l,Ev.step (f:=fun _=>some ((i : Int),(o : Int),xs,l)) (fun k=>?_) (Ev.now _),h,by omega,hs⟩
    rw [soundservicemade_Matrix.l0,hm,if_neg (by omega)]
  | succ d ih=>
    intro m xs l hm1 hd hx hs h
    obtain ⟨a,l1,e1,h1,a0,a1⟩:=next_spec h 256
    obtain ⟨b,l2,e2,h2,b0,b1⟩:=next_spec h1 8
    obtain ⟨bn,rfl⟩:=Int.eq_ofNat_of_zero_le b0
    have hc:=coefs_ok (a*128) ⟨by omega,by omega⟩ ⟨bn,by omega⟩
    obtain ⟨ys,l',he,hl',hy1,hy2⟩:=ih (m+1) (xs ++ [rd ([0,32768,23170,(-32768),131072,(-131072),1,a*128] : List Int) (bn : Int)]) l2 (by omega) (by omega) (by rw [List.length_append,hx];rfl) (by
      rw [allC_iff] at hs ⊢
      intro y hy
      rcases List.mem_append.1 hy with hy|hy
      · exact hs y hy
      · rcases List.mem_singleton.1 hy with rfl
        exact hc) h2
    refine ⟨ys,l',Ev.step (fun k=>?_) he,hl',hy1,hy2⟩
    rw [soundservicemade_Matrix.l0,hm,if_pos (by omega),e1,Option.bind_some]
    dsimp only
    rw [Option.bind_some,e2,Option.bind_some]
    dsimp only
    rw [if_pos (by omega),if_pos (by simp only [List.length_cons,List.length_nil];omega),if_pos (by omega),w64 (s:=a*128) (by omega) (by omega),w64 (s:=(m : Int)+1) (by omega) (by omega),show (m : Int)+1=((m+1 : Nat) : Int) from by omega]
theorem matok_of {i o : Nat} {l : List Int} (i1 : 1≤i) (i8 : i≤8) (o1 : 1≤o) (o8 : o≤8) (hl : l.length=i*o) (hc : allC l=true) : MatOk (i : Int) (o : Int) l:=
  ⟨by omega,by omega,by omega,by omega,by rw [hl,Int.natCast_mul],hc⟩
theorem matrix_spec {l : List Int} (h : Dz l) (i o : Nat) (hio : i*o≤100) : ∃ ys l',Ev (fun k=>soundservicemade_Matrix.f k l (i : Int) (o : Int)) ((i : Int),(o : Int),ys,l')∧Dz l'∧ys.length=i*o∧allC ys=true:=by
  obtain ⟨ys,l',he,h1,h2,h3⟩:=matrix_loop i o hio (i*o) 0 [] l (by omega) (by omega) rfl rfl h
  exact ⟨ys,l',Ev.congr (fun k=>rfl) he,h1,h2,h3⟩
/-- The matrix that changes nothing, up to a row. -/
def idUp (n m : Nat) : List Int:=(List.range (n*n)).map fun j=>if j % n=j / n∧j / n<m then 32768 else 0
def idL (n : Nat) : List Int:=idUp n n
theorem idUp_zero (n : Nat) : idUp n 0=List.replicate (n*n) 0:=by
  unfold idUp
  apply List.ext_getElem <;> simp
theorem idUp_set {n m : Nat} (hm : m<n) : (idUp n m).set (m*n+m) 32768=idUp n (m+1):=by
  unfold idUp
  apply List.ext_getElem
  · simp
  · intro j h1 h2
    rw [List.getElem_set]
    simp only [List.getElem_map,List.getElem_range]
    by_cases h : m*n+m=j
    · subst h
      have e1 : (m*n+m) / n=m:=by rw [Nat.mul_comm,Nat.mul_add_div (by omega),Nat.div_eq_of_lt hm,Nat.add_zero]
      have e2 : (m*n+m) % n=m:=by rw [Nat.mul_comm,Nat.mul_add_mod,Nat.mod_eq_of_lt hm]
      rw [if_pos rfl,e1,e2,if_pos ⟨rfl,by omega⟩]
    · rw [if_neg h]
      by_cases h3 : j % n=j / n
      · have hne : j / n≠m:=fun he=>h (by
          have:=Nat.div_add_mod j n
          rw [h3,he,Nat.mul_comm] at this
          exact this)
        by_cases h4 : j / n<m
        · rw [if_pos ⟨h3,h4⟩,if_pos ⟨h3,by omega⟩]
        · rw [if_neg (fun hh=>h4 hh.2),if_neg (fun hh=>by omega)]
      · rw [if_neg (fun hh=>h3 hh.1),if_neg (fun hh=>h3 hh.1)]
theorem idUp_length (n m : Nat) : (idUp n m).length=n*n:=by simp [idUp]
theorem identity_ev {n : Nat} (n1 : 1≤n) (n8 : n≤8) : Ev (fun k=>soundserviceref07_Identity.f k (n : Int)) ((n : Int),(n : Int),idL n,0):=by
  have hnn : n*n≤8*8:=Nat.mul_le_mul n8 n8
  have loop : ∀ d m : Nat,m≤n→n - m=d→Ev (fun k=>soundserviceref07_Identity.l0 k (n : Int) (m : Int) (n : Int) (n : Int) (idUp n m)) ((n : Int),(n : Int),idL n,0):=by
    intro d
    induction d with
    | zero=>
      intro m hm hd
      have : m=n:=by omega
      subst this
      refine Ev.step (f:=fun _=>some ((m : Int),(m : Int),idL m,0)) (fun k=>?_) (Ev.now _)
      rw [soundserviceref07_Identity.l0,if_neg (by omega)]
      rfl
    | succ d ih=>
      intro m hm hd
      have h1 : (m+1)*n≤n*n:=Nat.mul_le_mul_right n (by omega)
      have h2 : (m+1)*n=m*n+n:=by rw [Nat.add_mul,Nat.one_mul]
      refine Ev.step (fun k=>?_) (ih (m+1) (by omega) (by omega))
      rw [soundserviceref07_Identity.l0,if_pos (by omega),← Int.natCast_mul,w64 (s:=((m*n : Nat) : Int)) (by omega) (by omega),← Int.natCast_add,w64 (by omega) (by omega),if_pos (by omega),if_pos (by rw [idUp_length];omega),Int.toNat_natCast,idUp_set (by omega),w64 (s:=(m : Int)+1) (by omega) (by omega),show (m : Int)+1=((m+1 : Nat) : Int) from by omega]
  have hf : ∀ k,soundserviceref07_Identity.f k (n : Int)=soundserviceref07_Identity.j0 k (n : Int) false:=fun k=>by
    unfold soundserviceref07_Identity.f
    rw [if_neg (by omega),decide_eq_false (by omega)]
  refine Ev.congr hf (Ev.step (fun k=>?_) (loop n 0 (by omega) (by omega)))
  rw [soundserviceref07_Identity.j0,if_neg (by simp),← Int.natCast_mul,w64 (by omega) (by omega),if_pos (by omega),if_pos (by rw [Int.toNat_natCast];omega),Int.toNat_natCast,idUp_zero]
  rfl
theorem idL_ok (n : Nat) : allC (idL n)=true:=by
  rw [allC_iff]
  intro x hx
  obtain ⟨j,_,rfl⟩:=List.mem_map.1 hx
  split
  · exact ⟨by decide,by decide⟩
  · exact ⟨by decide,by decide⟩

/-! ### inputs -/
/-- A valid input of a mixture, not long. -/
def Fine (ch fr : Nat) (x : S54) : Prop:=errOf (ch : Int) (fr : Int) x=0∧x.f0.f1.length≤1000∧x.f1.f2.length≤1000
theorem good_of {ch fr c n : Nat} {data coef : List Int} {F T N A : Int} (c1 : 1≤c) (c8 : c≤8) (hn : n≤fr) (hn2 : n≤100) (hd : data.length=c*n) (hs : allS data=true) (ch1 : 1≤ch) (ch8 : ch≤8) (hc : coef.length=c*ch) (hca : allC coef=true) (hr : RampOk F T N A) :
    Fine ch fr (⟨⟨(c : Int),data⟩,⟨(c : Int),(ch : Int),coef⟩,⟨F,T,N,A⟩⟩ : S54):=by
  have hb:=block_ok (c:=c) (f:=n) c1 c8 (by omega) hd hs
  have hm:=matok_of c1 c8 ch1 ch8 hc hca
  have hcn:=Nat.mul_le_mul c8 hn2
  have hcc:=Nat.mul_le_mul c8 ch8
  refine ⟨?_,by show data.length≤1000;omega,by show coef.length≤1000;omega⟩
  unfold errOf
  have hnf : nF (⟨⟨(c : Int),data⟩,⟨(c : Int),(ch : Int),coef⟩,⟨F,T,N,A⟩⟩ : S54)=n:=by
    unfold nF
    show data.length / (c : Int).toNat=n
    rw [hd,Int.toNat_natCast,Nat.mul_div_cancel_left n (by omega)]
  rw [if_pos (show InOk _ from ⟨hb,hm,hr⟩),if_pos ⟨rfl,rfl⟩,hnf,if_neg (by omega)]
theorem input_spec {l : List Int} (h : Dz l) {ch fr : Nat} (ch1 : 1≤ch) (ch8 : ch≤8) (hfr : fr≤100) : ∃ (x : S54) (l' : List Int),Ev (fun k=>soundservicemade_Input.f k l (ch : Int) (fr : Int)) (x.f0.f0,x.f0.f1,x.f1.f0,x.f1.f1,x.f1.f2,x.f2.f0,x.f2.f1,x.f2.f2,x.f2.f3,l')∧Dz l'∧Fine ch fr x:=by
  obtain ⟨a,l1,e1,h1,a0,a1⟩:=next_spec h 3
  obtain ⟨b,l2,e2,h2,b0,b1⟩:=next_spec h1 ((fr : Int)+1)
  obtain ⟨an,rfl⟩:=Int.eq_ofNat_of_zero_le a0
  obtain ⟨n,rfl⟩:=Int.eq_ofNat_of_zero_le b0
  have hcn : (1+an)*n≤3*100:=Nat.mul_le_mul (by omega) (by omega)
  have hco : (1+an)*ch≤3*8:=Nat.mul_le_mul (by omega) (by omega)
  obtain ⟨data,l3,e3,h3,hd,hs⟩:=made_spec h2 (1+an) n (by omega)
  obtain ⟨coef,l4,e4,h4,hc,hca⟩:=matrix_spec h3 (1+an) ch (by omega)
  obtain ⟨F,T,N,A,l5,e5,h5,hr,_⟩:=ramp_spec h4
  have hin : ∀ k,soundservicemade_Input.f k l (ch : Int) (fr : Int)=(soundservicemade_Block.f k l2 ((1+an : Nat) : Int) (n : Int)).bind fun bt412=>((soundservicemade_Matrix.f k bt412.2.2 ((1+an : Nat) : Int) (ch : Int)).bind fun bt417=>((soundservicemade_Ramp.f bt417.2.2.2).bind fun bt423=>(if ((1+an : Nat) : Int)=(ch : Int) then ((soundservicemade_Dice_Next.f bt423.2.2.2.2 3).bind fun bt429=>(if bt429.1=0 then ((soundserviceref07_Identity.f k (ch : Int)).bind fun bt431=>(some (bt412.1,bt412.2.1,bt431.1,bt431.2.1,bt431.2.2.1,bt423.1,bt423.2.1,bt423.2.2.1,bt423.2.2.2.1,bt429.2))) else (some (bt412.1,bt412.2.1,bt417.1,bt417.2.1,bt417.2.2.1,bt423.1,bt423.2.1,bt423.2.2.1,bt423.2.2.2.1,bt429.2)))) else (some (bt412.1,bt412.2.1,bt417.1,bt417.2.1,bt417.2.2.1,bt423.1,bt423.2.1,bt423.2.2.1,bt423.2.2.2.1,bt423.2.2.2.2))))):=fun k=>by
    unfold soundservicemade_Input.f
    rw [e1,Option.bind_some]
    dsimp only
    rw [w64 (s:=(fr : Int)+1) (by omega) (by omega),e2,Option.bind_some]
    dsimp only
    rw [w64 (s:=1+(an : Int)) (by omega) (by omega),show 1+(an : Int)=((1+an : Nat) : Int) from by omega]
  have hm : ∀ {r : Int×List Int×Int×Int×List Int×Int×Int×Int×Int×List Int},Ev (fun k=>(if ((1+an : Nat) : Int)=(ch : Int) then ((soundservicemade_Dice_Next.f l5 3).bind fun bt429=>(if bt429.1=0 then ((soundserviceref07_Identity.f k (ch : Int)).bind fun bt431=>(some (((1+an : Nat) : Int),data,bt431.1,bt431.2.1,bt431.2.2.1,F,T,N,A,bt429.2))) else (some (((1+an : Nat) : Int),data,((1+an : Nat) : Int),(ch : Int),coef,F,T,N,A,bt429.2)))) else (some (((1+an : Nat) : Int),data,((1+an : Nat) : Int),(ch : Int),coef,F,T,N,A,l5)))) r→Ev (fun k=>soundservicemade_Input.f k l (ch : Int) (fr : Int)) r:=fun hr=>by
    refine Ev.congr hin ?_
    refine ev_head (fun k=>soundservicemade_Block.f k l2 ((1+an : Nat) : Int) (n : Int)) (fun k t=>_) (fun k=>rfl) e3 ?_
    refine ev_head (fun k=>soundservicemade_Matrix.f k l3 ((1+an : Nat) : Int) (ch : Int)) (fun k t=>_) (fun k=>rfl) e4 ?_
    refine Ev.congr (fun k=>?_) hr
    dsimp only
    rw [e5,Option.bind_some]
  have hg:=good_of (ch:=ch) (fr:=fr) (c:=1+an) (n:=n) (by omega) (by omega) (by omega) (by omega) hd hs ch1 ch8 hc hca hr
  by_cases he : 1+an=ch
  · obtain ⟨q,l6,e6,h6,q0,q1⟩:=next_spec h5 3
    by_cases hq : q=0
    · have hi:=identity_ev (n:=ch) ch1 ch8
      have hg2:=good_of (ch:=ch) (fr:=fr) (c:=1+an) (n:=n) (coef:=idL ch) (by omega) (by omega) (by omega) (by omega) hd hs ch1 ch8 (by rw [he];exact idUp_length ch ch) (idL_ok ch) hr
      refine ⟨_,l6,hm ?_,h6,hg2⟩
      refine ev_head (fun k=>soundserviceref07_Identity.f k (ch : Int)) ?hx (fun k=>?_) hi ?_
      rotate_left
      · rw [if_pos (by omega),e6,Option.bind_some,if_pos hq]
      · refine Ev.congr (fun k=>?_) (Ev.now _)
        dsimp only
        rw [he]
    · refine ⟨_,l6,hm ?_,h6,hg⟩
      refine Ev.congr (fun k=>?_) (Ev.now _)
      rw [if_pos (by omega),e6,Option.bind_some,if_neg hq]
  · refine ⟨_,l5,hm ?_,h5,hg⟩
    refine Ev.congr (fun k=>?_) (Ev.now _)
    rw [if_neg (by omega)]
theorem made_loop {ch fr : Nat} (ch1 : 1≤ch) (ch8 : ch≤8) (hfr : fr≤100) (n : Nat) : ∀ (xs : List S54) (l : List Int),Dz l→xs.length+n≤1000→(∀ x ∈ xs,Fine ch fr x)→
    ∃ ys l',Ev (fun k=>soundservicelaw23_made.l0 k (ch : Int) (fr : Int) xs (n : Int) l) (ys,l')∧Dz l'∧ys.length=xs.length+n∧∀ x ∈ ys,Fine ch fr x:=by
  induction n with
  | zero=>
    intro xs l h hx hg
    refine ⟨xs,l,Ev.step (f:=fun _=>some (xs,l)) (fun k=>?_) (Ev.now _),h,rfl,hg⟩
    rw [soundservicelaw23_made.l0,if_neg (by omega)]
  | succ n ih=>
    intro xs l h hx hg
    obtain ⟨x,l1,e1,h1,hgx⟩:=input_spec h ch1 ch8 hfr
    obtain ⟨ys,l',e2,h2,hl,hgy⟩:=ih (xs ++ [x]) l1 h1 (by rw [List.length_append];simp only [List.length_cons,List.length_nil];omega) (fun y hy=>by
      rcases List.mem_append.1 hy with hy|hy
      · exact hg y hy
      · rcases List.mem_singleton.1 hy with rfl
        exact hgx)
    refine ⟨ys,l',?_,h2,by rw [hl,List.length_append];simp only [List.length_cons,List.length_nil];omega,hgy⟩
    refine ev_call (fun k=>soundservicemade_Input.f k l (ch : Int) (fr : Int)) ?gx (fun k=>?_) e1 ?_
    rotate_left
    · rw [soundservicelaw23_made.l0,if_pos (by omega)]
    · refine Ev.congr (fun k=>?_) e2
      rw [if_pos (by omega),w64 (s:=((n+1 : Nat) : Int) - 1) (by omega) (by omega),show ((n+1 : Nat) : Int) - 1=(n : Int) from by omega]
theorem inputs_spec {l : List Int} (h : Dz l) {ch fr : Nat} (ch1 : 1≤ch) (ch8 : ch≤8) (hfr : fr≤100) : ∃ xs l',Ev (fun k=>soundservicelaw23_made.f k l (ch : Int) (fr : Int)) (xs,l')∧Dz l'∧xs.length≤4∧∀ x ∈ xs,Fine ch fr x:=by
  obtain ⟨n,l1,e1,h1,n0,n1⟩:=next_spec h 5
  obtain ⟨m,rfl⟩:=Int.eq_ofNat_of_zero_le n0
  obtain ⟨xs,l',e2,h2,hl,hg⟩:=made_loop ch1 ch8 hfr m [] l1 h1 (by simp;omega) (fun x hx=>by cases hx)
  refine ⟨xs,l',Ev.congr (fun k=>?_) e2,h2,by rw [hl];simp;omega,hg⟩
  unfold soundservicelaw23_made.f
  rw [e1,Option.bind_some]
theorem limit_spec {l : List Int} (h : Dz l) : ∃ T R l',soundservicelaw23_limit.f l=some (T,R,65536,l')∧Dz l'∧LimL.LimOk T R 65536:=by
  obtain ⟨a,l1,e1,h1,a0,a1⟩:=next_spec h 3
  obtain ⟨b,l2,e2,h2,b0,b1⟩:=next_spec h1 3
  have r3 : ∀ (p q r x : Int),0≤x→x<3→rd [p,q,r] x=p∨rd [p,q,r] x=q∨rd [p,q,r] x=r:=fun p q r x h0 h1=>by
    have : x=0∨x=1∨x=2:=by omega
    rcases this with rfl|rfl|rfl
    · exact .inl rfl
    · exact .inr (.inl rfl)
    · exact .inr (.inr rfl)
  have ha:=r3 8388607 1000000 5 a a0 (by omega)
  have hb:=r3 1 300 65536 b b0 (by omega)
  have ok1 : LimL.LimOk (rd [8388607,1000000,5] a) (rd [1,300,65536] b) 65536:=by
    unfold LimL.LimOk
    omega
  refine ⟨_,_,l2,?_,h2,ok1⟩
  obtain ⟨k1,k2,k3,k4,k5,k6⟩:=ok1
  have hnew : soundserviceref08_New.f (rd [8388607,1000000,5] a) (rd [1,300,65536] b)=some (rd [8388607,1000000,5] a,rd [1,300,65536] b,65536,0):=by
    unfold soundserviceref08_New.f soundserviceref08_Valid.f
    rw [if_pos k1,if_pos k2,if_pos k3,if_pos k4,if_pos k5,Option.bind_some,decide_eq_true k6,if_pos rfl]
  unfold soundservicelaw23_limit.f
  rw [Option.bind_some,e1,Option.bind_some]
  dsimp only
  rw [if_pos a0,if_pos (by simp only [List.length_cons,List.length_nil];omega),Option.bind_some,e2,Option.bind_some]
  dsimp only
  rw [if_pos b0,if_pos (by simp only [List.length_cons,List.length_nil];omega),hnew,Option.bind_some]
theorem lens_of {ch fr : Nat} {l : List S54} (h : ∀ x ∈ l,Fine ch fr x) : Lens l:=fun x hx=>by
  obtain ⟨_,h1,h2⟩:=h x hx
  omega

/-! ### sums of valid inputs -/
def total (l : List S54) (s : List Int) : List Int:=l.foldl (fun s x=>addL s (contrib x)) s
theorem foldV_good {ch fr : Nat} (l : List S54) : ∀ s : List Int,(∀ x ∈ l,Fine ch fr x)→foldV (ch : Int) (fr : Int) l s=(0,total l s):=by
  induction l with
  | nil=>intro s _;rfl
  | cons x l ih=>
    intro s h
    rw [foldV,if_pos (h x (List.mem_cons_self ..)).1,ih _ (fun y hy=>h y (List.mem_cons_of_mem _ hy))]
    rfl
theorem sumV_good {ch fr : Nat} {l : List S54} (ch1 : 1≤ch) (ch8 : ch≤8) (hfr : fr≤65536) (hl : l.length≤32) (h : ∀ x ∈ l,Fine ch fr x) : sumV (ch : Int) (fr : Int) l=(total l (List.replicate (ch*fr) 0),0):=by
  unfold sumV
  rw [if_pos (by omega),if_pos hl,← Int.natCast_mul,Int.toNat_natCast,foldV_good l _ h,if_pos rfl]
theorem total_length (l : List S54) : ∀ s : List Int,(total l s).length=s.length:=by
  induction l with
  | nil=>intro s;rfl
  | cons x l ih=>
    intro s
    show (total l (addL s (contrib x))).length=s.length
    rw [ih,addL_length]
theorem contrib_in (x : S54) : ∀ y ∈ contrib x,InS y:=fun y hy=>runV_mem y hy
theorem total_bound (l : List S54) : ∀ (b : Int) (s : List Int),0≤b→Bounded b s→Bounded (b+8388608*(l.length : Int)) (total l s):=by
  induction l with
  | nil=>
    intro b s b0 h
    show Bounded (b+8388608*((0 : Nat) : Int)) s
    intro x hx
    have:=h x hx
    omega
  | cons x l ih=>
    intro b s b0 h
    have:=ih (b+8388608) (addL s (contrib x)) (by omega) (addL_bound b b0 s (contrib x) h (contrib_in x))
    intro y hy
    have:=this y hy
    rw [List.length_cons]
    omega
theorem zeros_bound (n : Nat) : Bounded 0 (List.replicate n 0):=by
  intro x hx
  rw [List.mem_replicate] at hx
  omega
theorem total_small {l : List S54} (hl : l.length≤32) (n : Nat) : LimL.Small (total l (List.replicate n 0)):=by
  intro x hx
  have:=total_bound l 0 (List.replicate n 0) (by omega) (zeros_bound n) x hx
  omega
/-- The mixture of valid inputs. -/
theorem mixV_good {ch fr : Nat} {l : List S54} {T R G : Int} (ch1 : 1≤ch) (ch8 : ch≤8) (hfr : fr≤65536) (hl : l.length≤32) (h : ∀ x ∈ l,Fine ch fr x) (hok : LimL.LimOk T R G) :
    mixV (ch : Int) (fr : Int) l T R G=((ch : Int),(LimL.outs ch T R fr G (total l (List.replicate (ch*fr) 0))).1,T,R,(LimL.outs ch T R fr G (total l (List.replicate (ch*fr) 0))).2,0):=by
  have hlen : (total l (List.replicate (ch*fr) 0)).length=fr*ch:=by rw [total_length,List.length_replicate,Nat.mul_comm]
  have hf:=LimL.fits_of ch1 ch8 hlen hfr
  unfold mixV
  rw [sumV_good ch1 ch8 hfr hl h,if_pos rfl]
  unfold LimL.runV
  rw [if_pos hok,if_pos ⟨hf.1,total_small hl _⟩,Int.toNat_natCast,hf.2]
end Go.Proofs.Ytcnmemcclhahnaa.MadeL
