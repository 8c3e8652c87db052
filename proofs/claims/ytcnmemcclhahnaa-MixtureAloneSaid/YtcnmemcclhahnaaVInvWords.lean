-- The print's words, those of them that this claim names.
import Derived.Test.YtcnmemcclhahnaaVInv
import Derived.Test.YtcnmemcclhahnaaVFootNe
namespace Go.Proofs.YtcnmemcclhahnaaW.PrintWords
open Go.RowKit
end Go.Proofs.YtcnmemcclhahnaaW.PrintWords
namespace Go.Proofs.YtcnmemcclhahnaaW.PrintLast
section
variable {ops : Array Oper} {a : Act} {o og : Oper} {g : Nat} {t : Tmp} {u : Bool}
end
end Go.Proofs.YtcnmemcclhahnaaW.PrintLast
