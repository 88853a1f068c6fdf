/- Of the words that the texts of this claim use, what they come to (laid by the kit's print, pruned by this session). -/
import Derived.Test.YtmhbkgbgajpahaaGreatDoorWN
namespace Go.Proofs.YtmhbkgbgajpahaaGreatDoorW.PrintWords
open Go.RowKit
namespace Kd
section
variable {α : Type} {d : Kd α} {W : World} {g n : Nat} {S ok : Nat → Prop} {A : Option Addr} {ad : Addr} {xs : List α}
end
end Kd
end Go.Proofs.YtmhbkgbgajpahaaGreatDoorW.PrintWords
