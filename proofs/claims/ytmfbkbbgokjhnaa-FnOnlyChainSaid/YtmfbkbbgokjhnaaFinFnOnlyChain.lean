/- FnOnlyChain: for all clauses, every log and list of decisions, the reader accepts the decisions exactly if they are the ones that are told. -/
import Derived.Test.YtmfbkbbgokjhnaaRowFnOnlyChain
import Derived.Test.YtmfbkbbgokjhnaaOnly
namespace Go.Proofs.Ytmfbkbbgokjhnaa.FinFnOnlyChain
open Go.RowKit Go.Proofs.YtmfbkbbgokjhnaaW.PrintWords Go.Proofs.Ytmfbkbbgokjhnaa.F Go.Proofs.Ytmfbkbbgokjhnaa.Pu
set_option linter.unusedVariables false
theorem pure : RFnOnlyChain.PureFnOnlyChain := by
  rintro l0 l1 l2 ⟨hl0, hw0⟩ ⟨hl1, hw1⟩ ⟨hl2, hw2⟩
  refine Ev.rounds (g := fun k => laws_FnOnlyChain.f k l0 l1 l2) ?_
  refine only_chain l0 l1 l2 (fun x hx => ?_) (fun x hx => ?_)
  · have h := hw0 x hx
    exact ⟨Nat.le_trans h.1 (by decide), Nat.le_trans h.2.2.2.2.2.2 (by decide)⟩
  · have h := hw1 x hx
    exact Nat.le_trans h.2.2.1 (by decide)
end Go.Proofs.Ytmfbkbbgokjhnaa.FinFnOnlyChain
namespace Go.Proofs.Ytmfbkbbgokjhnaa
theorem fnOnlyChain_holds : Rows.FnOnlyChainSaid := RFnOnlyChain.fnOnlyChain.proved FinFnOnlyChain.pure
end Go.Proofs.Ytmfbkbbgokjhnaa
