/- Of the words that the texts of this claim use, what they come to (laid by the kit's print, pruned by this session). -/
import Derived.Test.YtmhbkgbgajpahaaGreatDoorWTab
namespace Go.Proofs.YtmhbkgbgajpahaaGreatDoorW.PrintLast
section
variable {P : Program} {ops : Array Oper} {Q : Exit → Act → World → Prop} {md : Region.Mode} {S : World → Prop} {ds : List Nat} {T : Bool × List (List Nat × List Nat)}
end
end Go.Proofs.YtmhbkgbgajpahaaGreatDoorW.PrintLast
