/- The laws' helpers over lists of Clause, as plain functions on lists. -/

import Derived.Test.YtmfbkbbgokjhnaaPu
import Derived.Test.YtmfbkbbgokjhnaaFx0
namespace Go.Proofs.Ytmfbkbbgokjhnaa.Pu
open Go.RowKit Go.Proofs.YtmfbkbbgokjhnaaW.PrintWords Go.Proofs.Ytmfbkbbgokjhnaa.F
set_option linter.unusedVariables false
set_option linter.unusedSimpArgs false
theorem rdCl (l : List S94) (i : Nat) : rd_T94 l (i : Int) = l.getD i z94 := by simp [rd_T94]
def smallClauseI (x : S94) : Prop := x.f0.size ≤ 9223372036854775807 ∧ x.f6.size ≤ 9223372036854775807
end Go.Proofs.Ytmfbkbbgokjhnaa.Pu
