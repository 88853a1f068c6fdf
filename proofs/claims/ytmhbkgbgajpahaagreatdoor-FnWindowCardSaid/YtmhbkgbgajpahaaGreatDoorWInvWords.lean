/- Of the words that the texts of this claim use, what they come to (laid by the kit's print, pruned by this session). -/
import Derived.Test.YtmhbkgbgajpahaaGreatDoorWInv
import Derived.Test.YtmhbkgbgajpahaaGreatDoorWFootNe
namespace Go.Proofs.YtmhbkgbgajpahaaGreatDoorW.PrintWords
open Go.RowKit
end Go.Proofs.YtmhbkgbgajpahaaGreatDoorW.PrintWords
namespace Go.Proofs.YtmhbkgbgajpahaaGreatDoorW.PrintLast
section
variable {ops : Array Oper} {a : Act} {o og : Oper} {g : Nat} {t : Tmp} {u : Bool}
end
end Go.Proofs.YtmhbkgbgajpahaaGreatDoorW.PrintLast
