-- Of the kit's printed words, what this seat's texts come to: kept by this session's program (wip/bin/trim.py).
import Derived.Test.YtldkcddjligbdaaWTab
namespace Go.Proofs.YtldkcddjligbdaaW.PrintLast
/-- Number i is listed too. -/
def up (b : Nat → Bool) (i : Nat) : Nat → Bool := fun j => if j = i then true else b j
section
variable {P : Program} {ops : Array Oper} {Q : Exit → Act → World → Prop} {md : Region.Mode} {T : Bool × List (List Nat × List Nat)} {B : List Nat} {O : List Nat} {b : Nat → Bool} {i j n : Nat}
/-! The frame: what is listed has its destination filled. -/
end
end Go.Proofs.YtldkcddjligbdaaW.PrintLast
