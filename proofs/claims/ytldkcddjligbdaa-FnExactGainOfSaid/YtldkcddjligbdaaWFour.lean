-- Of the kit's printed words, what this seat's texts come to: kept by this session's program (wip/bin/trim.py).
import Derived.Test.YtldkcddjligbdaaWTab
namespace Go.Proofs.YtldkcddjligbdaaW.PrintLast
section
variable {P : Program} {ops : Array Oper} {Q : Exit → Act → World → Prop} {md : Region.Mode} {S : World → Prop} {ds : List Nat} {T : Bool × List (List Nat × List Nat)}
end
end Go.Proofs.YtldkcddjligbdaaW.PrintLast
