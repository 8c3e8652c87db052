/- Plain law of the ramps that the dice make. -/
import Derived.Test.YtcnmemcclhahnaaPureDice
import Derived.Test.YtcnmemcclhahnaaPureGainL
import Derived.Test.YtcnmemcclhahnaaQT14
set_option linter.unusedVariables false
set_option linter.unusedSimpArgs false
namespace Go.Proofs.Ytcnmemcclhahnaa.DiceL
open Go.RowKit Go.Proofs.Ytcnmemcclhahnaa.QT Go.Proofs.Ytcnmemcclhahnaa.GainL Go.Proofs.YtcnmemcclhahnaaW.PrintWords Go.Proofs.YtcnmemcclhahnaaW.PrintLast

theorem gains_ok : ∀ i : Fin 7,0≤rd ([65536,0,1,262144,32768,65535,70000] : List Int) (i.val : Int)∧rd ([65536,0,1,262144,32768,65535,70000] : List Int) (i.val : Int)≤262144:=by decide
theorem gains_at {x : Int} (h0 : 0≤x) (h : x<7) : 0≤rd ([65536,0,1,262144,32768,65535,70000] : List Int) x∧rd ([65536,0,1,262144,32768,65535,70000] : List Int) x≤262144:=by
  obtain ⟨n,rfl⟩:=Int.eq_ofNat_of_zero_le h0
  exact gains_ok ⟨n,by omega⟩
theorem ramp_spec {l : List Int} (h : Dz l) : ∃ F T N A l',soundservicemade_Ramp.f l=some (F,T,N,A,l')∧Dz l'∧RampOk F T N A∧N≤11:=by
  obtain ⟨a,l1,e1,h1,a0,a1⟩:=next_spec h 7
  obtain ⟨b,l2,e2,h2,b0,b1⟩:=next_spec h1 7
  obtain ⟨c,l3,e3,h3,c0,c1⟩:=next_spec h2 12
  obtain ⟨d,l4,e4,h4,d0,d1⟩:=next_spec h3 (c+1)
  have ga:=gains_at a0 (by omega)
  have gb:=gains_at b0 (by omega)
  refine ⟨rd [65536,0,1,262144,32768,65535,70000] a,rd [65536,0,1,262144,32768,65535,70000] b,c,d,l4,?_,h4,⟨ga.1,ga.2,gb.1,gb.2,c0,by omega,d0,by omega⟩,by omega⟩
  unfold soundservicemade_Ramp.f
  rw [Option.bind_some,e1,Option.bind_some,if_pos a0,if_pos (by simp only [List.length_cons,List.length_nil];omega),e2,Option.bind_some,if_pos b0,if_pos (by simp only [List.length_cons,List.length_nil];omega),e3,Option.bind_some,dw64 (s:=c+1) (by omega) (by omega),e4,Option.bind_some]
end Go.Proofs.Ytcnmemcclhahnaa.DiceL
