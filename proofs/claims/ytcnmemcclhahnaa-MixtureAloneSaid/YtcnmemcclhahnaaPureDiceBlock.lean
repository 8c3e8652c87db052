/- Plain laws of blocks that the dice make. -/
import Derived.Test.YtcnmemcclhahnaaPureGainRun
import Derived.Test.YtcnmemcclhahnaaPureDice
import Derived.Test.YtcnmemcclhahnaaQT12
import Derived.Test.YtcnmemcclhahnaaQT12
set_option linter.unusedVariables false
set_option linter.unusedSimpArgs false
namespace Go.Proofs.Ytcnmemcclhahnaa.BlockL
open Go.RowKit Go.Proofs.Ytcnmemcclhahnaa.QT Go.Proofs.Ytcnmemcclhahnaa.GainL Go.Proofs.Ytcnmemcclhahnaa.DiceL Go.Proofs.YtcnmemcclhahnaaW.PrintWords Go.Proofs.YtcnmemcclhahnaaW.PrintLast

/-! ### blocks that the dice make -/
theorem bw32 {s : Int} (h0 : -2147483648≤s) (h1 : s≤2147483647) : wrap32 s=s:=by
  unfold wrap32
  omega
theorem sample_spec {l : List Int} (h : Dz l) : ∃ x l',soundservicemade_Dice_Sample.f l=some (x,l')∧Dz l'∧InS x:=by
  obtain ⟨a,l1,e1,h1,a0,a1⟩:=next_spec h 8
  unfold soundservicemade_Dice_Sample.f InS
  rw [e1,Option.bind_some]
  by_cases c0 : a=0
  · rw [if_pos c0]
    exact ⟨_,_,rfl,h1,by omega,by omega⟩
  · rw [if_neg c0]
    by_cases c1 : a=1
    · rw [if_pos c1]
      exact ⟨_,_,rfl,h1,by omega,by omega⟩
    · rw [if_neg c1]
      by_cases c2 : a=2
      · rw [if_pos c2]
        exact ⟨_,_,rfl,h1,by omega,by omega⟩
      · rw [if_neg c2]
        by_cases c3 : a=3
        · rw [if_pos c3]
          obtain ⟨b,l2,e2,h2,b0,b1⟩:=next_spec h1 256
          rw [e2,Option.bind_some]
          refine ⟨_,_,rfl,h2,?_⟩
          rw [bw32 (s:=b) (by omega) (by omega),bw32 (by omega) (by omega)]
          omega
        · rw [if_neg c3]
          obtain ⟨b,l2,e2,h2,b0,b1⟩:=next_spec h1 256
          obtain ⟨c,l3,e3,h3,g0,g1⟩:=next_spec h2 256
          obtain ⟨d,l4,e4,h4,d0,d1⟩:=next_spec h3 256
          rw [e2,Option.bind_some,e3,Option.bind_some,e4,Option.bind_some]
          refine ⟨_,_,rfl,h4,?_⟩
          rw [bw32 (s:=b) (by omega) (by omega),bw32 (s:=b*65536) (by omega) (by omega),bw32 (s:=c) (by omega) (by omega),bw32 (s:=c*256) (by omega) (by omega),bw32 (s:=d) (by omega) (by omega),bw32 (s:=b*65536 - 8388608) (by omega) (by omega),bw32 (s:=b*65536 - 8388608+c*256) (by omega) (by omega),bw32 (by omega) (by omega)]
          omega
theorem made_loop (c f : Nat) (hcf : c*f≤1000000) (d : Nat) : ∀ (i : Nat) (xs l : List Int),i≤c*f→c*f - i=d→xs.length=i→allS xs=true→Dz l→
    ∃ ys l',Ev (fun k=>soundservicemade_Block.l0 k (c : Int) (f : Int) (i : Int) l (c : Int) xs) ((c : Int),ys,l')∧Dz l'∧ys.length=c*f∧allS ys=true:=by
  have hm : wrap64 ((c : Int)*(f : Int))=((c*f : Nat) : Int):=by rw [← Int.natCast_mul,w64 (by omega) (by omega)]
  induction d with
  | zero=>
    intro i xs l hi hd hx hs h
    refine ⟨xs,l,Ev.step (f:=fun _=>some ((c : Int),xs,l)) (fun k=>?_) (Ev.now _),h,by omega,hs⟩
    rw [soundservicemade_Block.l0,hm,if_neg (by omega)]
  | succ d ih=>
    intro i xs l hi hd hx hs h
    obtain ⟨x,l1,e1,h1,hx1⟩:=sample_spec h
    obtain ⟨ys,l',he,hl',hy1,hy2⟩:=ih (i+1) (xs ++ [x]) l1 (by omega) (by omega) (by rw [List.length_append,hx];rfl) (by
      rw [allS_iff] at hs ⊢
      intro y hy
      rcases List.mem_append.1 hy with hy|hy
      · exact hs y hy
      · rcases List.mem_singleton.1 hy with rfl
        exact hx1) h1
    refine ⟨ys,l',Ev.step (fun k=>?_) he,hl',hy1,hy2⟩
    rw [soundservicemade_Block.l0,hm,if_pos (by omega),e1,Option.bind_some]
    dsimp only
    rw [if_pos (by omega),w64 (s:=(i : Int)+1) (by omega) (by omega),show (i : Int)+1=((i+1 : Nat) : Int) from by omega]
theorem made_spec {l : List Int} (h : Dz l) (c f : Nat) (hcf : c*f≤1000000) : ∃ ys l',Ev (fun k=>soundservicemade_Block.f k l (c : Int) (f : Int)) ((c : Int),ys,l')∧Dz l'∧ys.length=c*f∧allS ys=true:=by
  obtain ⟨ys,l',he,h1,h2,h3⟩:=made_loop c f hcf (c*f) 0 [] l (by omega) (by omega) rfl rfl h
  exact ⟨ys,l',Ev.congr (fun k=>rfl) he,h1,h2,h3⟩
theorem block_ok {c f : Nat} (c1 : 1≤c) (c8 : c≤8) (hf : f≤65536) {l : List Int} (hl : l.length=c*f) (hs : allS l=true) : BlockOk (c : Int) l:=by
  have e : l.length=f*c:=by rw [hl,Nat.mul_comm]
  have hm : l.length % c=0:=by rw [e];exact Nat.mul_mod_left f c
  have hd : l.length / c=f:=by rw [e];exact Nat.mul_div_cancel f (by omega)
  refine ⟨by omega,by omega,?_,?_,hs⟩
  · rw [← Int.natCast_emod,hm]
    rfl
  · rw [← Int.natCast_ediv,hd]
    omega

end Go.Proofs.Ytcnmemcclhahnaa.BlockL
