import Derived.Test.YtckbmniiecbalaaGreatDoorWInv
import Derived.Test.YtckbmniiecbalaaGreatDoorWFootNe
namespace Go.Proofs.YtckbmniiecbalaaGreatDoorW.PrintWords
open Go.RowKit
end Go.Proofs.YtckbmniiecbalaaGreatDoorW.PrintWords
namespace Go.Proofs.YtckbmniiecbalaaGreatDoorW.PrintLast
section
variable {ops : Array Oper} {a : Act} {o og : Oper} {g : Nat} {t : Tmp} {u : Bool}
end
end Go.Proofs.YtckbmniiecbalaaGreatDoorW.PrintLast
