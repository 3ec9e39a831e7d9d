-- Of the kit's printed words, what this seat's texts come to: kept by this session's program (wip/bin/trim.py).
import Derived.Test.YtldkcddjligbdaaWInv
import Derived.Test.YtldkcddjligbdaaWFootNe
namespace Go.Proofs.YtldkcddjligbdaaW.PrintWords
open Go.RowKit
end Go.Proofs.YtldkcddjligbdaaW.PrintWords
namespace Go.Proofs.YtldkcddjligbdaaW.PrintLast
section
variable {ops : Array Oper} {a : Act} {o og : Oper} {g : Nat} {t : Tmp} {u : Bool}
end
end Go.Proofs.YtldkcddjligbdaaW.PrintLast
