/- Of the words that the texts of this claim use, what they come to (laid by the kit's print, pruned by this session). -/
import Derived.Test.YtammbicoegggcaaWInv
import Derived.Test.YtammbicoegggcaaWFootNe
namespace Go.Proofs.YtammbicoegggcaaW.PrintWords
open Go.RowKit
end Go.Proofs.YtammbicoegggcaaW.PrintWords
namespace Go.Proofs.YtammbicoegggcaaW.PrintLast
section
variable {ops : Array Oper} {a : Act} {o og : Oper} {g : Nat} {t : Tmp} {u : Bool}
end
end Go.Proofs.YtammbicoegggcaaW.PrintLast
