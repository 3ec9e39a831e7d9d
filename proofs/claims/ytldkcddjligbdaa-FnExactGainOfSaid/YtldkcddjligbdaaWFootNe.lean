-- Of the kit's printed words, what this seat's texts come to: kept by this session's program (wip/bin/trim.py).
import Derived.Test.YtldkcddjligbdaaWN
namespace Go.Proofs.YtldkcddjligbdaaW.PrintWords
open Go.RowKit
namespace Kd
section
variable {α : Type} {d : Kd α} {W : World} {g n : Nat} {S ok : Nat → Prop} {A : Option Addr} {ad : Addr} {xs : List α}
end
end Kd
end Go.Proofs.YtldkcddjligbdaaW.PrintWords
