-- The print's words, those of them that this claim names.
import Derived.Test.YtegodmjmoagajaaVInv
import Derived.Test.YtegodmjmoagajaaVFootNe
namespace Go.Proofs.YtegodmjmoagajaaW.PrintWords
open Go.RowKit
end Go.Proofs.YtegodmjmoagajaaW.PrintWords
namespace Go.Proofs.YtegodmjmoagajaaW.PrintLast
section
variable {ops : Array Oper} {a : Act} {o og : Oper} {g : Nat} {t : Tmp} {u : Bool}
end
end Go.Proofs.YtegodmjmoagajaaW.PrintLast
