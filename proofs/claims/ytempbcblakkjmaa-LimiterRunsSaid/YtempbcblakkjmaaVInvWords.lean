-- The print's words, those of them that this claim names.
import Derived.Test.YtempbcblakkjmaaVInv
import Derived.Test.YtempbcblakkjmaaVFootNe
namespace Go.Proofs.YtempbcblakkjmaaW.PrintWords
open Go.RowKit
end Go.Proofs.YtempbcblakkjmaaW.PrintWords
namespace Go.Proofs.YtempbcblakkjmaaW.PrintLast
section
variable {ops : Array Oper} {a : Act} {o og : Oper} {g : Nat} {t : Tmp} {u : Bool}
end
end Go.Proofs.YtempbcblakkjmaaW.PrintLast
