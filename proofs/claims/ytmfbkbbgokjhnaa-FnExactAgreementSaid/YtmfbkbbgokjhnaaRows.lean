/-
  No cell of these rows narrows 'for every input' (looked for: loops, veiled, ifaces, maps, wideKeys, modest, calm, conditions, laid).
  DERIVED. THE GIVEN ROWS OF THIS SEAT. 6 by the template 'for every input the law returns true; each argument reads behind the call as it read before'; 0 by the template 'total and deterministic' (their statements: YtmfbkbbgokjhnaaTotals.lean).
  GIVEN WITH THE SEED: the statements are not yours to turn. If you find one false, say at which input.
  Laid BY PROGRAM, IN A SANDBOX (cutbox-rows.mjs): the forced cells as the released guide's own fill.sh prints them over the translation 6a73e79b458a6e35… (all of the seat's roots in one cut). By AI agents, Wed Nov 11 2026. No macro, syntax, notation, axiom, sorry.
-/
import Derived.Test.YtmfbkbbgokjhnaaChecked
import GoSem.Claim
import GoSem.ClaimJoined
import GoSem.ClaimMapViews
import Derived.JoinedTies
import Derived.KernelRfl
namespace Go.Proofs.Ytmfbkbbgokjhnaa
/- THE CELL 'sum', in the pinned program and in every row, IS THE sha256 OF THE DUMP (.gsa) THAT YtmfbkbbgokjhnaaProg.lean LOADS. Nothing in Lean hashes anything: it is a label: what it is worth is what the hold of that sum in a sandbox is worth. -/
noncomputable def Try.pinned : Pinned := { name := "ytmfbkbbgokjhnaa", sum := "6a73e79b458a6e3551122c077e76df4d3a196eeade9125105aeb661ef9292c7b", checked := Try.checked }
namespace Rows
def none {H : Type} : Left H := { results := [], args := [] }

/-- 'laws.FnExactAgeOfShip': WHATEVER THE INPUT: true; the input reads as it did. -/
def fnExactAgeOfShipSpec : ChangeSpec := { name := "fnExactAgeOfShip", fn := fun _ => fun
  | [d] => { results := [.lit (.bool true)], args := [d] }
  | _ => none }
def fnExactAgeOfShipRow : OpenClaim := { program := "ytmfbkbbgokjhnaa", sum := "6a73e79b458a6e3551122c077e76df4d3a196eeade9125105aeb661ef9292c7b", func := "loop.example/g01010/laws.FnExactAgeOfShip", spec := "fnExactAgeOfShip", inPlace := ["internal/bytealg.abigen_runtime_cmpstring"], unfollowed := true, recurses := true, apart := false }
def FnExactAgeOfShipSaid : Prop := fnExactAgeOfShipRow.holds Try.pinned (OpenSpec.ofChange fnExactAgeOfShipSpec)

/-- ITS FALSE NEIGHBOUR: 'it returns false'. Refute it at one input. -/
def fnExactAgeOfShipWrong : ChangeSpec := { name := "fnExactAgeOfShip", fn := fun _ => fun
  | [d] => { results := [.lit (.bool false)], args := [d] }
  | _ => none }
def FnExactAgeOfShipWrongFalsely : Prop := fnExactAgeOfShipRow.holds Try.pinned (OpenSpec.ofChange fnExactAgeOfShipWrong)

/-- 'laws.FnExactIsRight': WHATEVER THE INPUT: true; the input reads as it did. -/
def fnExactIsRightSpec : ChangeSpec := { name := "fnExactIsRight", fn := fun _ => fun
  | [d1, d2, d3] => { results := [.lit (.bool true)], args := [d1, d2, d3] }
  | _ => none }
def fnExactIsRightRow : OpenClaim := { program := "ytmfbkbbgokjhnaa", sum := "6a73e79b458a6e3551122c077e76df4d3a196eeade9125105aeb661ef9292c7b", func := "loop.example/g01010/laws.FnExactIsRight", spec := "fnExactIsRight", unfollowed := true, recurses := true, apart := false }
def FnExactIsRightSaid : Prop := fnExactIsRightRow.holds Try.pinned (OpenSpec.ofChange fnExactIsRightSpec)

/-- ITS FALSE NEIGHBOUR: 'it returns false'. Refute it at one input. -/
def fnExactIsRightWrong : ChangeSpec := { name := "fnExactIsRight", fn := fun _ => fun
  | [d1, d2, d3] => { results := [.lit (.bool false)], args := [d1, d2, d3] }
  | _ => none }
def FnExactIsRightWrongFalsely : Prop := fnExactIsRightRow.holds Try.pinned (OpenSpec.ofChange fnExactIsRightWrong)

/-- 'laws.FnExactFirstWrong': WHATEVER THE INPUT: true; the input reads as it did. -/
def fnExactFirstWrongSpec : ChangeSpec := { name := "fnExactFirstWrong", fn := fun _ => fun
  | [d1, d2, d3] => { results := [.lit (.bool true)], args := [d1, d2, d3] }
  | _ => none }
def fnExactFirstWrongRow : OpenClaim := { program := "ytmfbkbbgokjhnaa", sum := "6a73e79b458a6e3551122c077e76df4d3a196eeade9125105aeb661ef9292c7b", func := "loop.example/g01010/laws.FnExactFirstWrong", spec := "fnExactFirstWrong", unfollowed := true, recurses := true, apart := false }
def FnExactFirstWrongSaid : Prop := fnExactFirstWrongRow.holds Try.pinned (OpenSpec.ofChange fnExactFirstWrongSpec)

/-- ITS FALSE NEIGHBOUR: 'it returns false'. Refute it at one input. -/
def fnExactFirstWrongWrong : ChangeSpec := { name := "fnExactFirstWrong", fn := fun _ => fun
  | [d1, d2, d3] => { results := [.lit (.bool false)], args := [d1, d2, d3] }
  | _ => none }
def FnExactFirstWrongWrongFalsely : Prop := fnExactFirstWrongRow.holds Try.pinned (OpenSpec.ofChange fnExactFirstWrongWrong)

/-- 'laws.FnOnlyChain': WHATEVER THE INPUT: true; the input reads as it did. -/
def fnOnlyChainSpec : ChangeSpec := { name := "fnOnlyChain", fn := fun _ => fun
  | [d1, d2, d3] => { results := [.lit (.bool true)], args := [d1, d2, d3] }
  | _ => none }
def fnOnlyChainRow : OpenClaim := { program := "ytmfbkbbgokjhnaa", sum := "6a73e79b458a6e3551122c077e76df4d3a196eeade9125105aeb661ef9292c7b", func := "loop.example/g01010/laws.FnOnlyChain", spec := "fnOnlyChain", unfollowed := true, recurses := true, apart := false }
def FnOnlyChainSaid : Prop := fnOnlyChainRow.holds Try.pinned (OpenSpec.ofChange fnOnlyChainSpec)

/-- ITS FALSE NEIGHBOUR: 'it returns false'. Refute it at one input. -/
def fnOnlyChainWrong : ChangeSpec := { name := "fnOnlyChain", fn := fun _ => fun
  | [d1, d2, d3] => { results := [.lit (.bool false)], args := [d1, d2, d3] }
  | _ => none }
def FnOnlyChainWrongFalsely : Prop := fnOnlyChainRow.holds Try.pinned (OpenSpec.ofChange fnOnlyChainWrong)

/-- 'laws.FnExactAgreement': WHATEVER THE INPUT: true; the input reads as it did. -/
def fnExactAgreementSpec : ChangeSpec := { name := "fnExactAgreement", fn := fun _ => fun
  | [d1, d2, d3] => { results := [.lit (.bool true)], args := [d1, d2, d3] }
  | _ => none }
def fnExactAgreementRow : OpenClaim := { program := "ytmfbkbbgokjhnaa", sum := "6a73e79b458a6e3551122c077e76df4d3a196eeade9125105aeb661ef9292c7b", func := "loop.example/g01010/laws.FnExactAgreement", spec := "fnExactAgreement", unfollowed := true, recurses := true, apart := false }
def FnExactAgreementSaid : Prop := fnExactAgreementRow.holds Try.pinned (OpenSpec.ofChange fnExactAgreementSpec)

/-- ITS FALSE NEIGHBOUR: 'it returns false'. Refute it at one input. -/
def fnExactAgreementWrong : ChangeSpec := { name := "fnExactAgreement", fn := fun _ => fun
  | [d1, d2, d3] => { results := [.lit (.bool false)], args := [d1, d2, d3] }
  | _ => none }
def FnExactAgreementWrongFalsely : Prop := fnExactAgreementRow.holds Try.pinned (OpenSpec.ofChange fnExactAgreementWrong)

/-- 'laws.FnExactBestChoice': WHATEVER THE INPUT: true; the input reads as it did. -/
def fnExactBestChoiceSpec : ChangeSpec := { name := "fnExactBestChoice", fn := fun _ => fun
  | [d1, d2] => { results := [.lit (.bool true)], args := [d1, d2] }
  | _ => none }
def fnExactBestChoiceRow : OpenClaim := { program := "ytmfbkbbgokjhnaa", sum := "6a73e79b458a6e3551122c077e76df4d3a196eeade9125105aeb661ef9292c7b", func := "loop.example/g01010/laws.FnExactBestChoice", spec := "fnExactBestChoice", unfollowed := true, recurses := true, apart := false }
def FnExactBestChoiceSaid : Prop := fnExactBestChoiceRow.holds Try.pinned (OpenSpec.ofChange fnExactBestChoiceSpec)

/-- ITS FALSE NEIGHBOUR: 'it returns false'. Refute it at one input. -/
def fnExactBestChoiceWrong : ChangeSpec := { name := "fnExactBestChoice", fn := fun _ => fun
  | [d1, d2] => { results := [.lit (.bool false)], args := [d1, d2] }
  | _ => none }
def FnExactBestChoiceWrongFalsely : Prop := fnExactBestChoiceRow.holds Try.pinned (OpenSpec.ofChange fnExactBestChoiceWrong)

/- THE SECOND FORM. 'bulk': how many values and letters a reading holds, each counted each time it is reached (what is shared counts as often as it is met; a slice's spare places count too). A statement '..UptoSaid' is the law's where the arguments, and the package variables that the reading takes, are together of bulk at most 1048576: NARROWER than '..Said'. Prove '..Said' where nothing that the law and all that it calls make is longer than what came in: it says more and counts as full. Else prove '..UptoSaid'. A law counts once. -/
mutual
def uptoBulk {H : Type} : DataW H → Nat
  | .lit (.string bytes) => bytes.length + 1
  | .lit _ => 1
  | .nil => 1
  | .ptr d => uptoBulk d + 1
  | .slice elems spare => uptoBulkAll elems + uptoBulkAll spare + 1
  | .agg parts => uptoBulkAll parts + 1
  | .iface _ d => uptoBulk d + 1
  | .map entries => uptoBulkEntries entries + 1
  | .held _ => 1
def uptoBulkAll {H : Type} : List (DataW H) → Nat
  | [] => 0
  | d :: r => uptoBulk d + uptoBulkAll r
def uptoBulkEntries {H : Type} : List (Lit × DataW H) → Nat
  | [] => 0
  | x :: r => uptoBulkEntry x + uptoBulkEntries r
def uptoBulkEntry {H : Type} : Lit × DataW H → Nat
  | (.string bytes, d) => bytes.length + uptoBulk d + 1
  | (_, d) => uptoBulk d + 1
 end
def uptoSmall : (H : Type) → List (DataW H) → Bool := fun _ ds => decide (uptoBulkAll ds ≤ 1048576)
def OpenSpec.upto (s : _root_.Go.ChangeSpec) : _root_.Go.OpenSpec := { _root_.Go.OpenSpec.ofChange s with cond := some uptoSmall }

/-- 'laws.FnExactAgeOfShip', WHERE WHAT IT READS IS OF BULK AT MOST 1048576: true; the input reads as it did. -/
def fnExactAgeOfShipUptoRow : OpenClaim := { program := "ytmfbkbbgokjhnaa", sum := "6a73e79b458a6e3551122c077e76df4d3a196eeade9125105aeb661ef9292c7b", func := "loop.example/g01010/laws.FnExactAgeOfShip", spec := "fnExactAgeOfShip", inPlace := ["internal/bytealg.abigen_runtime_cmpstring"], unfollowed := true, recurses := true, apart := false, narrowed := true }
def FnExactAgeOfShipUptoSaid : Prop := fnExactAgeOfShipUptoRow.holds Try.pinned (OpenSpec.upto fnExactAgeOfShipSpec)

/-- 'laws.FnExactIsRight', WHERE WHAT IT READS IS OF BULK AT MOST 1048576: true; the input reads as it did. -/
def fnExactIsRightUptoRow : OpenClaim := { program := "ytmfbkbbgokjhnaa", sum := "6a73e79b458a6e3551122c077e76df4d3a196eeade9125105aeb661ef9292c7b", func := "loop.example/g01010/laws.FnExactIsRight", spec := "fnExactIsRight", unfollowed := true, recurses := true, apart := false, narrowed := true }
def FnExactIsRightUptoSaid : Prop := fnExactIsRightUptoRow.holds Try.pinned (OpenSpec.upto fnExactIsRightSpec)

/-- 'laws.FnExactFirstWrong', WHERE WHAT IT READS IS OF BULK AT MOST 1048576: true; the input reads as it did. -/
def fnExactFirstWrongUptoRow : OpenClaim := { program := "ytmfbkbbgokjhnaa", sum := "6a73e79b458a6e3551122c077e76df4d3a196eeade9125105aeb661ef9292c7b", func := "loop.example/g01010/laws.FnExactFirstWrong", spec := "fnExactFirstWrong", unfollowed := true, recurses := true, apart := false, narrowed := true }
def FnExactFirstWrongUptoSaid : Prop := fnExactFirstWrongUptoRow.holds Try.pinned (OpenSpec.upto fnExactFirstWrongSpec)

/-- 'laws.FnOnlyChain', WHERE WHAT IT READS IS OF BULK AT MOST 1048576: true; the input reads as it did. -/
def fnOnlyChainUptoRow : OpenClaim := { program := "ytmfbkbbgokjhnaa", sum := "6a73e79b458a6e3551122c077e76df4d3a196eeade9125105aeb661ef9292c7b", func := "loop.example/g01010/laws.FnOnlyChain", spec := "fnOnlyChain", unfollowed := true, recurses := true, apart := false, narrowed := true }
def FnOnlyChainUptoSaid : Prop := fnOnlyChainUptoRow.holds Try.pinned (OpenSpec.upto fnOnlyChainSpec)

/-- 'laws.FnExactAgreement', WHERE WHAT IT READS IS OF BULK AT MOST 1048576: true; the input reads as it did. -/
def fnExactAgreementUptoRow : OpenClaim := { program := "ytmfbkbbgokjhnaa", sum := "6a73e79b458a6e3551122c077e76df4d3a196eeade9125105aeb661ef9292c7b", func := "loop.example/g01010/laws.FnExactAgreement", spec := "fnExactAgreement", unfollowed := true, recurses := true, apart := false, narrowed := true }
def FnExactAgreementUptoSaid : Prop := fnExactAgreementUptoRow.holds Try.pinned (OpenSpec.upto fnExactAgreementSpec)

/-- 'laws.FnExactBestChoice', WHERE WHAT IT READS IS OF BULK AT MOST 1048576: true; the input reads as it did. -/
def fnExactBestChoiceUptoRow : OpenClaim := { program := "ytmfbkbbgokjhnaa", sum := "6a73e79b458a6e3551122c077e76df4d3a196eeade9125105aeb661ef9292c7b", func := "loop.example/g01010/laws.FnExactBestChoice", spec := "fnExactBestChoice", unfollowed := true, recurses := true, apart := false, narrowed := true }
def FnExactBestChoiceUptoSaid : Prop := fnExactBestChoiceUptoRow.holds Try.pinned (OpenSpec.upto fnExactBestChoiceSpec)

end Rows
end Go.Proofs.Ytmfbkbbgokjhnaa
