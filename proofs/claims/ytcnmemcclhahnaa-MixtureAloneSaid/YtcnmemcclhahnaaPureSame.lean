/- Plain law of the references' comparison of blocks: a block is the same as itself. -/
import Derived.Test.YtcnmemcclhahnaaQT26
import Derived.Test.YtcnmemcclhahnaaQT26
set_option linter.unusedVariables false
set_option linter.unusedSimpArgs false
namespace Go.Proofs.Ytcnmemcclhahnaa.SameL
open Go.RowKit Go.Proofs.Ytcnmemcclhahnaa.QT Go.Proofs.YtcnmemcclhahnaaW.PrintWords Go.Proofs.YtcnmemcclhahnaaW.PrintLast

theorem sw64 {s : Int} (h0 : -9223372036854775808 ≤ s) (h1 : s ≤ 9223372036854775807) : wrap64 s = s := by
  unfold wrap64
  omega
theorem data_loop (l : List Int) (hl : l.length ≤ 4611686018427387904) (d : Nat) : ∀ i : Nat, i ≤ l.length → l.length - i = d →
    Ev (fun k => soundserviceref04_SameData.l0 k l l (l.length : Int) (i : Int)) true := by
  induction d with
  | zero =>
    intro i hi hd
    refine Ev.step (f := fun _ => some true) (fun k => ?_) (Ev.now _)
    rw [soundserviceref04_SameData.l0, if_neg (by omega)]
  | succ d ih =>
    intro i hi hd
    refine Ev.step (fun k => ?_) (ih (i + 1) (by omega) (by omega))
    rw [soundserviceref04_SameData.l0, if_pos (by omega), if_pos (by omega), if_pos (by omega), if_pos (by omega), if_pos rfl, sw64 (s := (i : Int) + 1) (by omega) (by omega), show (i : Int) + 1 = ((i + 1 : Nat) : Int) from by omega]
theorem same_ev (c : Int) (l : List Int) (hl : l.length ≤ 4611686018427387904) : Ev (fun k => soundserviceref04_Same.f k c l c l) true := by
  refine Ev.congr (f := fun k => (soundserviceref04_SameData.f k l l).bind fun t => some t) (fun k => ?_) (Ev.bind (a := true) ?_ (Ev.now _))
  · unfold soundserviceref04_Same.f
    rw [if_pos rfl]
  · refine Ev.congr (fun k => ?_) (data_loop l hl l.length 0 (by omega) (by omega))
    unfold soundserviceref04_SameData.f
    rw [if_pos rfl]
    rfl
end Go.Proofs.Ytcnmemcclhahnaa.SameL
