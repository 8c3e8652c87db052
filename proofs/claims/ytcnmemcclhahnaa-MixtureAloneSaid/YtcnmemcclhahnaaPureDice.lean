/- Plain laws of the dice: numbers and lists from short lists of bytes. -/
import Derived.Test.YtcnmemcclhahnaaQT12
import Derived.Test.YtcnmemcclhahnaaQT12
set_option linter.unusedVariables false
set_option linter.unusedSimpArgs false
namespace Go.Proofs.Ytcnmemcclhahnaa.DiceL
open Go.RowKit Go.Proofs.Ytcnmemcclhahnaa.QT Go.Proofs.YtcnmemcclhahnaaW.PrintWords Go.Proofs.YtcnmemcclhahnaaW.PrintLast

theorem dw64 {s : Int} (h0 : -9223372036854775808≤s) (h1 : s≤9223372036854775807) : wrap64 s=s:=by
  unfold wrap64
  omega
/-- Bytes. -/
def Dz (l : List Int) : Prop:=∀ x ∈ l,0≤x∧x≤255
theorem dz_of {l : List Int} (h : ∀ x ∈ l,(Lit.int .u8 x).wf=true) : Dz l:=fun x hx=>by
  have h2:=h x hx
  simp [Lit.wf] at h2
  exact h2
theorem next_spec {l : List Int} (h : Dz l) (n : Int) : ∃ x l',soundservicemade_Dice_Next.f l n=some (x,l')∧Dz l'∧0≤x∧(x<n∨x=0):=by
  unfold soundservicemade_Dice_Next.f
  by_cases h1 : (l.length : Int)=0
  · rw [if_pos h1]
    exact ⟨0,l,rfl,h,by omega,by omega⟩
  · rw [if_neg h1]
    by_cases h2 : n≤1
    · rw [if_pos h2]
      exact ⟨0,l,rfl,h,by omega,by omega⟩
    · rw [if_neg h2]
      have hm : rd l 0 ∈ l:=by
        have hlt : 0<l.length:=by omega
        have : rd l 0=l[0]:=by simp [rd,List.getD_eq_getElem?_getD,hlt]
        rw [this]
        exact List.getElem_mem hlt
      have hb:=h _ hm
      refine ⟨_,_,rfl,fun x hx=>h x (List.mem_of_mem_drop hx),?_,?_⟩
      · rw [dw64 (by omega) (by omega)]
        exact Int.tmod_nonneg _ hb.1
      · exact .inl (Int.tmod_lt_of_pos _ (by omega))
theorem new_spec {l : List Int} (h : Dz l) : ∃ l',soundservicemade_New.f l=some l'∧Dz l'∧l'.length≤300:=by
  unfold soundservicemade_New.f
  have h0 : 0≤mn (l.length : Int) 300∧mn (l.length : Int) 300≤(l.length : Int)∧mn (l.length : Int) 300≤300:=by
    unfold mn
    omega
  rw [if_pos h0.1,if_pos h0.2.1]
  refine ⟨_,rfl,fun x hx=>h x (List.mem_of_mem_take hx),?_⟩
  rw [List.length_take]
  omega
end Go.Proofs.Ytcnmemcclhahnaa.DiceL
