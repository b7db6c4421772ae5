import Derived.Test.YtamkjpjibkabaaaWInv
import Derived.Test.YtamkjpjibkabaaaWFootNe
namespace Go.Proofs.YtamkjpjibkabaaaW.PrintWords
open Go.RowKit
end Go.Proofs.YtamkjpjibkabaaaW.PrintWords
namespace Go.Proofs.YtamkjpjibkabaaaW.PrintLast
section
variable {ops : Array Oper} {a : Act} {o og : Oper} {g : Nat} {t : Tmp} {u : Bool}
end
end Go.Proofs.YtamkjpjibkabaaaW.PrintLast
