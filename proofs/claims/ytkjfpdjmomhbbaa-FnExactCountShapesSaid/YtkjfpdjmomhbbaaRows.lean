/-
  No cell of these rows narrows 'for every input' (looked for: loops, veiled, ifaces, maps, wideKeys, modest, calm, conditions, laid).
  DERIVED. THE GIVEN ROWS OF THIS SEAT. 11 by the template 'for every input the law returns true; each argument reads behind the call as it read before'; 0 by the template 'total and deterministic' (their statements: YtkjfpdjmomhbbaaTotals.lean).
  GIVEN WITH THE SEED: the statements are not yours to turn. If you find one false, say at which input.
  Laid BY PROGRAM, IN A SANDBOX (cutbox-rows.mjs): the forced cells as the released guide's own fill.sh prints them over the translation 688ffabdf6c949f0… (all of the seat's roots in one cut). By AI agents, Wed Nov 11 2026. No macro, syntax, notation, axiom, sorry.
-/
import Derived.Test.YtkjfpdjmomhbbaaChecked
import GoSem.Claim
import GoSem.ClaimJoined
import GoSem.ClaimMapViews
import Derived.JoinedTies
import Derived.KernelRfl
namespace Go.Proofs.Ytkjfpdjmomhbbaa
/- THE CELL 'sum', in the pinned program and in every row, IS THE sha256 OF THE DUMP (.gsa) THAT YtkjfpdjmomhbbaaProg.lean LOADS. Nothing in Lean hashes anything: it is a label: what it is worth is what the hold of that sum in a sandbox is worth. -/
noncomputable def Try.pinned : Pinned := { name := "ytkjfpdjmomhbbaa", sum := "688ffabdf6c949f0c256298934778bf3dfcb89053f03524a937a91e504964404", checked := Try.checked }
namespace Rows
def none {H : Type} : Left H := { results := [], args := [] }

/-- 'laws.FnExactWitnessFor': WHATEVER THE INPUT: true; the input reads as it did. -/
def fnExactWitnessForSpec : ChangeSpec := { name := "fnExactWitnessFor", fn := fun _ => fun
  | [d1, d2] => { results := [.lit (.bool true)], args := [d1, d2] }
  | _ => none }
def fnExactWitnessForRow : OpenClaim := { program := "ytkjfpdjmomhbbaa", sum := "688ffabdf6c949f0c256298934778bf3dfcb89053f03524a937a91e504964404", func := "loop.example/g01010/laws.FnExactWitnessFor", spec := "fnExactWitnessFor", unfollowed := true, recurses := true, apart := false }
def FnExactWitnessForSaid : Prop := fnExactWitnessForRow.holds Try.pinned (OpenSpec.ofChange fnExactWitnessForSpec)

/-- ITS FALSE NEIGHBOUR: 'it returns false'. Refute it at one input. -/
def fnExactWitnessForWrong : ChangeSpec := { name := "fnExactWitnessFor", fn := fun _ => fun
  | [d1, d2] => { results := [.lit (.bool false)], args := [d1, d2] }
  | _ => none }
def FnExactWitnessForWrongFalsely : Prop := fnExactWitnessForRow.holds Try.pinned (OpenSpec.ofChange fnExactWitnessForWrong)

/-- 'laws.FnExactCountShapes': WHATEVER THE INPUT: true; the input reads as it did. -/
def fnExactCountShapesSpec : ChangeSpec := { name := "fnExactCountShapes", fn := fun _ => fun
  | [d] => { results := [.lit (.bool true)], args := [d] }
  | _ => none }
def fnExactCountShapesRow : OpenClaim := { program := "ytkjfpdjmomhbbaa", sum := "688ffabdf6c949f0c256298934778bf3dfcb89053f03524a937a91e504964404", func := "loop.example/g01010/laws.FnExactCountShapes", spec := "fnExactCountShapes", unfollowed := true, recurses := true, apart := false }
def FnExactCountShapesSaid : Prop := fnExactCountShapesRow.holds Try.pinned (OpenSpec.ofChange fnExactCountShapesSpec)

/-- ITS FALSE NEIGHBOUR: 'it returns false'. Refute it at one input. -/
def fnExactCountShapesWrong : ChangeSpec := { name := "fnExactCountShapes", fn := fun _ => fun
  | [d] => { results := [.lit (.bool false)], args := [d] }
  | _ => none }
def FnExactCountShapesWrongFalsely : Prop := fnExactCountShapesRow.holds Try.pinned (OpenSpec.ofChange fnExactCountShapesWrong)

/-- 'laws.FnExactTruthsToChange': WHATEVER THE INPUT: true; the input reads as it did. -/
def fnExactTruthsToChangeSpec : ChangeSpec := { name := "fnExactTruthsToChange", fn := fun _ => fun
  | [d1, d2, d3] => { results := [.lit (.bool true)], args := [d1, d2, d3] }
  | _ => none }
def fnExactTruthsToChangeRow : OpenClaim := { program := "ytkjfpdjmomhbbaa", sum := "688ffabdf6c949f0c256298934778bf3dfcb89053f03524a937a91e504964404", func := "loop.example/g01010/laws.FnExactTruthsToChange", spec := "fnExactTruthsToChange", unfollowed := true, recurses := true, apart := false }
def FnExactTruthsToChangeSaid : Prop := fnExactTruthsToChangeRow.holds Try.pinned (OpenSpec.ofChange fnExactTruthsToChangeSpec)

/-- ITS FALSE NEIGHBOUR: 'it returns false'. Refute it at one input. -/
def fnExactTruthsToChangeWrong : ChangeSpec := { name := "fnExactTruthsToChange", fn := fun _ => fun
  | [d1, d2, d3] => { results := [.lit (.bool false)], args := [d1, d2, d3] }
  | _ => none }
def FnExactTruthsToChangeWrongFalsely : Prop := fnExactTruthsToChangeRow.holds Try.pinned (OpenSpec.ofChange fnExactTruthsToChangeWrong)

/-- 'laws.FnExactSkippedClauses': WHATEVER THE INPUT: true; the input reads as it did. -/
def fnExactSkippedClausesSpec : ChangeSpec := { name := "fnExactSkippedClauses", fn := fun _ => fun
  | [d1, d2] => { results := [.lit (.bool true)], args := [d1, d2] }
  | _ => none }
def fnExactSkippedClausesRow : OpenClaim := { program := "ytkjfpdjmomhbbaa", sum := "688ffabdf6c949f0c256298934778bf3dfcb89053f03524a937a91e504964404", func := "loop.example/g01010/laws.FnExactSkippedClauses", spec := "fnExactSkippedClauses", unfollowed := true, recurses := true, apart := false }
def FnExactSkippedClausesSaid : Prop := fnExactSkippedClausesRow.holds Try.pinned (OpenSpec.ofChange fnExactSkippedClausesSpec)

/-- ITS FALSE NEIGHBOUR: 'it returns false'. Refute it at one input. -/
def fnExactSkippedClausesWrong : ChangeSpec := { name := "fnExactSkippedClauses", fn := fun _ => fun
  | [d1, d2] => { results := [.lit (.bool false)], args := [d1, d2] }
  | _ => none }
def FnExactSkippedClausesWrongFalsely : Prop := fnExactSkippedClausesRow.holds Try.pinned (OpenSpec.ofChange fnExactSkippedClausesWrong)

/-- 'laws.FnExactIsRight': WHATEVER THE INPUT: true; the input reads as it did. -/
def fnExactIsRightSpec : ChangeSpec := { name := "fnExactIsRight", fn := fun _ => fun
  | [d1, d2, d3] => { results := [.lit (.bool true)], args := [d1, d2, d3] }
  | _ => none }
def fnExactIsRightRow : OpenClaim := { program := "ytkjfpdjmomhbbaa", sum := "688ffabdf6c949f0c256298934778bf3dfcb89053f03524a937a91e504964404", func := "loop.example/g01010/laws.FnExactIsRight", spec := "fnExactIsRight", unfollowed := true, recurses := true, apart := false }
def FnExactIsRightSaid : Prop := fnExactIsRightRow.holds Try.pinned (OpenSpec.ofChange fnExactIsRightSpec)

/-- ITS FALSE NEIGHBOUR: 'it returns false'. Refute it at one input. -/
def fnExactIsRightWrong : ChangeSpec := { name := "fnExactIsRight", fn := fun _ => fun
  | [d1, d2, d3] => { results := [.lit (.bool false)], args := [d1, d2, d3] }
  | _ => none }
def FnExactIsRightWrongFalsely : Prop := fnExactIsRightRow.holds Try.pinned (OpenSpec.ofChange fnExactIsRightWrong)

/-- 'laws.FnExactAgreement': WHATEVER THE INPUT: true; the input reads as it did. -/
def fnExactAgreementSpec : ChangeSpec := { name := "fnExactAgreement", fn := fun _ => fun
  | [d1, d2, d3] => { results := [.lit (.bool true)], args := [d1, d2, d3] }
  | _ => none }
def fnExactAgreementRow : OpenClaim := { program := "ytkjfpdjmomhbbaa", sum := "688ffabdf6c949f0c256298934778bf3dfcb89053f03524a937a91e504964404", func := "loop.example/g01010/laws.FnExactAgreement", spec := "fnExactAgreement", unfollowed := true, recurses := true, apart := false }
def FnExactAgreementSaid : Prop := fnExactAgreementRow.holds Try.pinned (OpenSpec.ofChange fnExactAgreementSpec)

/-- ITS FALSE NEIGHBOUR: 'it returns false'. Refute it at one input. -/
def fnExactAgreementWrong : ChangeSpec := { name := "fnExactAgreement", fn := fun _ => fun
  | [d1, d2, d3] => { results := [.lit (.bool false)], args := [d1, d2, d3] }
  | _ => none }
def FnExactAgreementWrongFalsely : Prop := fnExactAgreementRow.holds Try.pinned (OpenSpec.ofChange fnExactAgreementWrong)

/-- 'laws.FnExactFirstWrong': WHATEVER THE INPUT: true; the input reads as it did. -/
def fnExactFirstWrongSpec : ChangeSpec := { name := "fnExactFirstWrong", fn := fun _ => fun
  | [d1, d2, d3] => { results := [.lit (.bool true)], args := [d1, d2, d3] }
  | _ => none }
def fnExactFirstWrongRow : OpenClaim := { program := "ytkjfpdjmomhbbaa", sum := "688ffabdf6c949f0c256298934778bf3dfcb89053f03524a937a91e504964404", func := "loop.example/g01010/laws.FnExactFirstWrong", spec := "fnExactFirstWrong", unfollowed := true, recurses := true, apart := false }
def FnExactFirstWrongSaid : Prop := fnExactFirstWrongRow.holds Try.pinned (OpenSpec.ofChange fnExactFirstWrongSpec)

/-- ITS FALSE NEIGHBOUR: 'it returns false'. Refute it at one input. -/
def fnExactFirstWrongWrong : ChangeSpec := { name := "fnExactFirstWrong", fn := fun _ => fun
  | [d1, d2, d3] => { results := [.lit (.bool false)], args := [d1, d2, d3] }
  | _ => none }
def FnExactFirstWrongWrongFalsely : Prop := fnExactFirstWrongRow.holds Try.pinned (OpenSpec.ofChange fnExactFirstWrongWrong)

/-- 'laws.FnOnlyChain': WHATEVER THE INPUT: true; the input reads as it did. -/
def fnOnlyChainSpec : ChangeSpec := { name := "fnOnlyChain", fn := fun _ => fun
  | [d1, d2, d3] => { results := [.lit (.bool true)], args := [d1, d2, d3] }
  | _ => none }
def fnOnlyChainRow : OpenClaim := { program := "ytkjfpdjmomhbbaa", sum := "688ffabdf6c949f0c256298934778bf3dfcb89053f03524a937a91e504964404", func := "loop.example/g01010/laws.FnOnlyChain", spec := "fnOnlyChain", unfollowed := true, recurses := true, apart := false }
def FnOnlyChainSaid : Prop := fnOnlyChainRow.holds Try.pinned (OpenSpec.ofChange fnOnlyChainSpec)

/-- ITS FALSE NEIGHBOUR: 'it returns false'. Refute it at one input. -/
def fnOnlyChainWrong : ChangeSpec := { name := "fnOnlyChain", fn := fun _ => fun
  | [d1, d2, d3] => { results := [.lit (.bool false)], args := [d1, d2, d3] }
  | _ => none }
def FnOnlyChainWrongFalsely : Prop := fnOnlyChainRow.holds Try.pinned (OpenSpec.ofChange fnOnlyChainWrong)

/-- 'laws.FnRulebooks': WHATEVER THE INPUT: true; the input reads as it did. -/
def fnRulebooksSpec : ChangeSpec := { name := "fnRulebooks", fn := fun _ => fun
  | [d] => { results := [.lit (.bool true)], args := [d] }
  | _ => none }
def fnRulebooksRow : OpenClaim := { program := "ytkjfpdjmomhbbaa", sum := "688ffabdf6c949f0c256298934778bf3dfcb89053f03524a937a91e504964404", func := "loop.example/g01010/laws.FnRulebooks", spec := "fnRulebooks", unfollowed := true, recurses := true, apart := false }
def FnRulebooksSaid : Prop := fnRulebooksRow.holds Try.pinned (OpenSpec.ofChange fnRulebooksSpec)

/-- ITS FALSE NEIGHBOUR: 'it returns false'. Refute it at one input. -/
def fnRulebooksWrong : ChangeSpec := { name := "fnRulebooks", fn := fun _ => fun
  | [d] => { results := [.lit (.bool false)], args := [d] }
  | _ => none }
def FnRulebooksWrongFalsely : Prop := fnRulebooksRow.holds Try.pinned (OpenSpec.ofChange fnRulebooksWrong)

/-- 'laws.FnChecked': WHATEVER THE INPUT: true; the input reads as it did. -/
def fnCheckedSpec : ChangeSpec := { name := "fnChecked", fn := fun _ => fun
  | [d] => { results := [.lit (.bool true)], args := [d] }
  | _ => none }
def fnCheckedRow : OpenClaim := { program := "ytkjfpdjmomhbbaa", sum := "688ffabdf6c949f0c256298934778bf3dfcb89053f03524a937a91e504964404", func := "loop.example/g01010/laws.FnChecked", spec := "fnChecked", unfollowed := true, recurses := true, apart := false }
def FnCheckedSaid : Prop := fnCheckedRow.holds Try.pinned (OpenSpec.ofChange fnCheckedSpec)

/-- ITS FALSE NEIGHBOUR: 'it returns false'. Refute it at one input. -/
def fnCheckedWrong : ChangeSpec := { name := "fnChecked", fn := fun _ => fun
  | [d] => { results := [.lit (.bool false)], args := [d] }
  | _ => none }
def FnCheckedWrongFalsely : Prop := fnCheckedRow.holds Try.pinned (OpenSpec.ofChange fnCheckedWrong)

/-- 'laws.FnWitnesses': WHATEVER THE INPUT: true; the input reads as it did. -/
def fnWitnessesSpec : ChangeSpec := { name := "fnWitnesses", fn := fun _ => fun
  | [d] => { results := [.lit (.bool true)], args := [d] }
  | _ => none }
def fnWitnessesRow : OpenClaim := { program := "ytkjfpdjmomhbbaa", sum := "688ffabdf6c949f0c256298934778bf3dfcb89053f03524a937a91e504964404", func := "loop.example/g01010/laws.FnWitnesses", spec := "fnWitnesses", unfollowed := true, recurses := true, apart := false }
def FnWitnessesSaid : Prop := fnWitnessesRow.holds Try.pinned (OpenSpec.ofChange fnWitnessesSpec)

/-- ITS FALSE NEIGHBOUR: 'it returns false'. Refute it at one input. -/
def fnWitnessesWrong : ChangeSpec := { name := "fnWitnesses", fn := fun _ => fun
  | [d] => { results := [.lit (.bool false)], args := [d] }
  | _ => none }
def FnWitnessesWrongFalsely : Prop := fnWitnessesRow.holds Try.pinned (OpenSpec.ofChange fnWitnessesWrong)

/- THE SECOND FORM. 'bulk': how many values and letters a reading holds, each counted each time it is reached (what is shared counts as often as it is met; a slice's spare places count too). A statement '..UptoSaid' is the law's where the arguments, and the package variables that the reading takes, are together of bulk at most 1048576: NARROWER than '..Said'. Prove '..Said' where nothing that the law and all that it calls make is longer than what came in: it says more and counts as full. Else prove '..UptoSaid'. A law counts once. -/
mutual
def uptoBulk {H : Type} : DataW H → Nat
  | .lit (.string bytes) => bytes.length + 1
  | .lit _ => 1
  | .nil => 1
  | .ptr d => uptoBulk d + 1
  | .slice elems spare => uptoBulkAll elems + uptoBulkAll spare + 1
  | .agg parts => uptoBulkAll parts + 1
  | .iface _ d => uptoBulk d + 1
  | .map entries => uptoBulkEntries entries + 1
  | .held _ => 1
def uptoBulkAll {H : Type} : List (DataW H) → Nat
  | [] => 0
  | d :: r => uptoBulk d + uptoBulkAll r
def uptoBulkEntries {H : Type} : List (Lit × DataW H) → Nat
  | [] => 0
  | x :: r => uptoBulkEntry x + uptoBulkEntries r
def uptoBulkEntry {H : Type} : Lit × DataW H → Nat
  | (.string bytes, d) => bytes.length + uptoBulk d + 1
  | (_, d) => uptoBulk d + 1
 end
def uptoSmall : (H : Type) → List (DataW H) → Bool := fun _ ds => decide (uptoBulkAll ds ≤ 1048576)
def OpenSpec.upto (s : _root_.Go.ChangeSpec) : _root_.Go.OpenSpec := { _root_.Go.OpenSpec.ofChange s with cond := some uptoSmall }

/-- 'laws.FnExactWitnessFor', WHERE WHAT IT READS IS OF BULK AT MOST 1048576: true; the input reads as it did. -/
def fnExactWitnessForUptoRow : OpenClaim := { program := "ytkjfpdjmomhbbaa", sum := "688ffabdf6c949f0c256298934778bf3dfcb89053f03524a937a91e504964404", func := "loop.example/g01010/laws.FnExactWitnessFor", spec := "fnExactWitnessFor", unfollowed := true, recurses := true, apart := false, narrowed := true }
def FnExactWitnessForUptoSaid : Prop := fnExactWitnessForUptoRow.holds Try.pinned (OpenSpec.upto fnExactWitnessForSpec)

/-- 'laws.FnExactCountShapes', WHERE WHAT IT READS IS OF BULK AT MOST 1048576: true; the input reads as it did. -/
def fnExactCountShapesUptoRow : OpenClaim := { program := "ytkjfpdjmomhbbaa", sum := "688ffabdf6c949f0c256298934778bf3dfcb89053f03524a937a91e504964404", func := "loop.example/g01010/laws.FnExactCountShapes", spec := "fnExactCountShapes", unfollowed := true, recurses := true, apart := false, narrowed := true }
def FnExactCountShapesUptoSaid : Prop := fnExactCountShapesUptoRow.holds Try.pinned (OpenSpec.upto fnExactCountShapesSpec)

/-- 'laws.FnExactTruthsToChange', WHERE WHAT IT READS IS OF BULK AT MOST 1048576: true; the input reads as it did. -/
def fnExactTruthsToChangeUptoRow : OpenClaim := { program := "ytkjfpdjmomhbbaa", sum := "688ffabdf6c949f0c256298934778bf3dfcb89053f03524a937a91e504964404", func := "loop.example/g01010/laws.FnExactTruthsToChange", spec := "fnExactTruthsToChange", unfollowed := true, recurses := true, apart := false, narrowed := true }
def FnExactTruthsToChangeUptoSaid : Prop := fnExactTruthsToChangeUptoRow.holds Try.pinned (OpenSpec.upto fnExactTruthsToChangeSpec)

/-- 'laws.FnExactSkippedClauses', WHERE WHAT IT READS IS OF BULK AT MOST 1048576: true; the input reads as it did. -/
def fnExactSkippedClausesUptoRow : OpenClaim := { program := "ytkjfpdjmomhbbaa", sum := "688ffabdf6c949f0c256298934778bf3dfcb89053f03524a937a91e504964404", func := "loop.example/g01010/laws.FnExactSkippedClauses", spec := "fnExactSkippedClauses", unfollowed := true, recurses := true, apart := false, narrowed := true }
def FnExactSkippedClausesUptoSaid : Prop := fnExactSkippedClausesUptoRow.holds Try.pinned (OpenSpec.upto fnExactSkippedClausesSpec)

/-- 'laws.FnExactIsRight', WHERE WHAT IT READS IS OF BULK AT MOST 1048576: true; the input reads as it did. -/
def fnExactIsRightUptoRow : OpenClaim := { program := "ytkjfpdjmomhbbaa", sum := "688ffabdf6c949f0c256298934778bf3dfcb89053f03524a937a91e504964404", func := "loop.example/g01010/laws.FnExactIsRight", spec := "fnExactIsRight", unfollowed := true, recurses := true, apart := false, narrowed := true }
def FnExactIsRightUptoSaid : Prop := fnExactIsRightUptoRow.holds Try.pinned (OpenSpec.upto fnExactIsRightSpec)

/-- 'laws.FnExactAgreement', WHERE WHAT IT READS IS OF BULK AT MOST 1048576: true; the input reads as it did. -/
def fnExactAgreementUptoRow : OpenClaim := { program := "ytkjfpdjmomhbbaa", sum := "688ffabdf6c949f0c256298934778bf3dfcb89053f03524a937a91e504964404", func := "loop.example/g01010/laws.FnExactAgreement", spec := "fnExactAgreement", unfollowed := true, recurses := true, apart := false, narrowed := true }
def FnExactAgreementUptoSaid : Prop := fnExactAgreementUptoRow.holds Try.pinned (OpenSpec.upto fnExactAgreementSpec)

/-- 'laws.FnExactFirstWrong', WHERE WHAT IT READS IS OF BULK AT MOST 1048576: true; the input reads as it did. -/
def fnExactFirstWrongUptoRow : OpenClaim := { program := "ytkjfpdjmomhbbaa", sum := "688ffabdf6c949f0c256298934778bf3dfcb89053f03524a937a91e504964404", func := "loop.example/g01010/laws.FnExactFirstWrong", spec := "fnExactFirstWrong", unfollowed := true, recurses := true, apart := false, narrowed := true }
def FnExactFirstWrongUptoSaid : Prop := fnExactFirstWrongUptoRow.holds Try.pinned (OpenSpec.upto fnExactFirstWrongSpec)

/-- 'laws.FnOnlyChain', WHERE WHAT IT READS IS OF BULK AT MOST 1048576: true; the input reads as it did. -/
def fnOnlyChainUptoRow : OpenClaim := { program := "ytkjfpdjmomhbbaa", sum := "688ffabdf6c949f0c256298934778bf3dfcb89053f03524a937a91e504964404", func := "loop.example/g01010/laws.FnOnlyChain", spec := "fnOnlyChain", unfollowed := true, recurses := true, apart := false, narrowed := true }
def FnOnlyChainUptoSaid : Prop := fnOnlyChainUptoRow.holds Try.pinned (OpenSpec.upto fnOnlyChainSpec)

/-- 'laws.FnRulebooks', WHERE WHAT IT READS IS OF BULK AT MOST 1048576: true; the input reads as it did. -/
def fnRulebooksUptoRow : OpenClaim := { program := "ytkjfpdjmomhbbaa", sum := "688ffabdf6c949f0c256298934778bf3dfcb89053f03524a937a91e504964404", func := "loop.example/g01010/laws.FnRulebooks", spec := "fnRulebooks", unfollowed := true, recurses := true, apart := false, narrowed := true }
def FnRulebooksUptoSaid : Prop := fnRulebooksUptoRow.holds Try.pinned (OpenSpec.upto fnRulebooksSpec)

/-- 'laws.FnChecked', WHERE WHAT IT READS IS OF BULK AT MOST 1048576: true; the input reads as it did. -/
def fnCheckedUptoRow : OpenClaim := { program := "ytkjfpdjmomhbbaa", sum := "688ffabdf6c949f0c256298934778bf3dfcb89053f03524a937a91e504964404", func := "loop.example/g01010/laws.FnChecked", spec := "fnChecked", unfollowed := true, recurses := true, apart := false, narrowed := true }
def FnCheckedUptoSaid : Prop := fnCheckedUptoRow.holds Try.pinned (OpenSpec.upto fnCheckedSpec)

/-- 'laws.FnWitnesses', WHERE WHAT IT READS IS OF BULK AT MOST 1048576: true; the input reads as it did. -/
def fnWitnessesUptoRow : OpenClaim := { program := "ytkjfpdjmomhbbaa", sum := "688ffabdf6c949f0c256298934778bf3dfcb89053f03524a937a91e504964404", func := "loop.example/g01010/laws.FnWitnesses", spec := "fnWitnesses", unfollowed := true, recurses := true, apart := false, narrowed := true }
def FnWitnessesUptoSaid : Prop := fnWitnessesUptoRow.holds Try.pinned (OpenSpec.upto fnWitnessesSpec)

end Rows
end Go.Proofs.Ytkjfpdjmomhbbaa
