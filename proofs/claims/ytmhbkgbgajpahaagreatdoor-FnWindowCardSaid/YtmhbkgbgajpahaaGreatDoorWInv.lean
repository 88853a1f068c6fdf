/- Of the words that the texts of this claim use, what they come to (laid by the kit's print, pruned by this session). -/
import Derived.Test.YtmhbkgbgajpahaaGreatDoorWTab
namespace Go.Proofs.YtmhbkgbgajpahaaGreatDoorW.PrintLast
/-- Number i is listed too. -/
def up (b : Nat → Bool) (i : Nat) : Nat → Bool := fun j => if j = i then true else b j
section
variable {P : Program} {ops : Array Oper} {Q : Exit → Act → World → Prop} {md : Region.Mode} {T : Bool × List (List Nat × List Nat)} {B : List Nat} {O : List Nat} {b : Nat → Bool} {i j n : Nat}
end
end Go.Proofs.YtmhbkgbgajpahaaGreatDoorW.PrintLast
