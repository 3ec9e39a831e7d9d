/-
  No cell of these rows narrows 'for every input' (looked for: loops, veiled, ifaces, maps, wideKeys, modest, calm, conditions, laid).
  DERIVED. THE GIVEN ROWS OF THIS SEAT. 12 by the template 'for every input the law returns true; each argument reads behind the call as it read before'; 0 by the template 'total and deterministic' (their statements: YtldkcddjligbdaaTotals.lean).
  GIVEN WITH THE SEED: the statements are not yours to turn. If you find one false, say at which input.
  Laid BY PROGRAM, IN A SANDBOX (cutbox-rows.mjs): the forced cells as the released guide's own fill.sh prints them over the translation 14878f8596ef8845… (all of the seat's roots in one cut). By AI agents, Wed Nov 11 2026. No macro, syntax, notation, axiom, sorry.
-/
import Derived.Test.YtldkcddjligbdaaChecked
import GoSem.Claim
import GoSem.ClaimJoined
import GoSem.ClaimMapViews
import Derived.JoinedTies
import Derived.KernelRfl
namespace Go.Proofs.Ytldkcddjligbdaa
/- THE CELL 'sum', in the pinned program and in every row, IS THE sha256 OF THE DUMP (.gsa) THAT YtldkcddjligbdaaProg.lean LOADS. Nothing in Lean hashes anything: it is a label: what it is worth is what the hold of that sum in a sandbox is worth. -/
noncomputable def Try.pinned : Pinned := { name := "ytldkcddjligbdaa", sum := "14878f8596ef8845247a8376cc3307f9134cb2cf8cce4cbaf3887fa9f251dd95", checked := Try.checked }
namespace Rows
def none {H : Type} : Left H := { results := [], args := [] }

/-- 'laws.FnExactBestOption': WHATEVER THE INPUT: true; the input reads as it did. -/
def fnExactBestOptionSpec : ChangeSpec := { name := "fnExactBestOption", fn := fun _ => fun
  | [d] => { results := [.lit (.bool true)], args := [d] }
  | _ => none }
def fnExactBestOptionRow : OpenClaim := { program := "ytldkcddjligbdaa", sum := "14878f8596ef8845247a8376cc3307f9134cb2cf8cce4cbaf3887fa9f251dd95", func := "loop.example/g01010/laws.FnExactBestOption", spec := "fnExactBestOption", unfollowed := true, recurses := true, apart := false }
def FnExactBestOptionSaid : Prop := fnExactBestOptionRow.holds Try.pinned (OpenSpec.ofChange fnExactBestOptionSpec)

/-- ITS FALSE NEIGHBOUR: 'it returns false'. Refute it at one input. -/
def fnExactBestOptionWrong : ChangeSpec := { name := "fnExactBestOption", fn := fun _ => fun
  | [d] => { results := [.lit (.bool false)], args := [d] }
  | _ => none }
def FnExactBestOptionWrongFalsely : Prop := fnExactBestOptionRow.holds Try.pinned (OpenSpec.ofChange fnExactBestOptionWrong)

/-- 'laws.FnExactPointsForAge': WHATEVER THE INPUT: true; the input reads as it did. -/
def fnExactPointsForAgeSpec : ChangeSpec := { name := "fnExactPointsForAge", fn := fun _ => fun
  | [d1, d2] => { results := [.lit (.bool true)], args := [d1, d2] }
  | _ => none }
def fnExactPointsForAgeRow : OpenClaim := { program := "ytldkcddjligbdaa", sum := "14878f8596ef8845247a8376cc3307f9134cb2cf8cce4cbaf3887fa9f251dd95", func := "loop.example/g01010/laws.FnExactPointsForAge", spec := "fnExactPointsForAge", apart := false }
def FnExactPointsForAgeSaid : Prop := fnExactPointsForAgeRow.holds Try.pinned (OpenSpec.ofChange fnExactPointsForAgeSpec)

/-- ITS FALSE NEIGHBOUR: 'it returns false'. Refute it at one input. -/
def fnExactPointsForAgeWrong : ChangeSpec := { name := "fnExactPointsForAge", fn := fun _ => fun
  | [d1, d2] => { results := [.lit (.bool false)], args := [d1, d2] }
  | _ => none }
def FnExactPointsForAgeWrongFalsely : Prop := fnExactPointsForAgeRow.holds Try.pinned (OpenSpec.ofChange fnExactPointsForAgeWrong)

/-- 'laws.FnExactTotalAllowed': WHATEVER THE INPUT: true; the input reads as it did. -/
def fnExactTotalAllowedSpec : ChangeSpec := { name := "fnExactTotalAllowed", fn := fun _ => fun
  | [d] => { results := [.lit (.bool true)], args := [d] }
  | _ => none }
def fnExactTotalAllowedRow : OpenClaim := { program := "ytldkcddjligbdaa", sum := "14878f8596ef8845247a8376cc3307f9134cb2cf8cce4cbaf3887fa9f251dd95", func := "loop.example/g01010/laws.FnExactTotalAllowed", spec := "fnExactTotalAllowed", unfollowed := true, recurses := true, apart := false }
def FnExactTotalAllowedSaid : Prop := fnExactTotalAllowedRow.holds Try.pinned (OpenSpec.ofChange fnExactTotalAllowedSpec)

/-- ITS FALSE NEIGHBOUR: 'it returns false'. Refute it at one input. -/
def fnExactTotalAllowedWrong : ChangeSpec := { name := "fnExactTotalAllowed", fn := fun _ => fun
  | [d] => { results := [.lit (.bool false)], args := [d] }
  | _ => none }
def FnExactTotalAllowedWrongFalsely : Prop := fnExactTotalAllowedRow.holds Try.pinned (OpenSpec.ofChange fnExactTotalAllowedWrong)

/-- 'laws.FnExactDeductionOf': WHATEVER THE INPUT: true; the input reads as it did. -/
def fnExactDeductionOfSpec : ChangeSpec := { name := "fnExactDeductionOf", fn := fun _ => fun
  | [d1, d2, d3] => { results := [.lit (.bool true)], args := [d1, d2, d3] }
  | _ => none }
def fnExactDeductionOfRow : OpenClaim := { program := "ytldkcddjligbdaa", sum := "14878f8596ef8845247a8376cc3307f9134cb2cf8cce4cbaf3887fa9f251dd95", func := "loop.example/g01010/laws.FnExactDeductionOf", spec := "fnExactDeductionOf", apart := false }
def FnExactDeductionOfSaid : Prop := fnExactDeductionOfRow.holds Try.pinned (OpenSpec.ofChange fnExactDeductionOfSpec)

/-- ITS FALSE NEIGHBOUR: 'it returns false'. Refute it at one input. -/
def fnExactDeductionOfWrong : ChangeSpec := { name := "fnExactDeductionOf", fn := fun _ => fun
  | [d1, d2, d3] => { results := [.lit (.bool false)], args := [d1, d2, d3] }
  | _ => none }
def FnExactDeductionOfWrongFalsely : Prop := fnExactDeductionOfRow.holds Try.pinned (OpenSpec.ofChange fnExactDeductionOfWrong)

/-- 'laws.FnExactAgeOfShip': WHATEVER THE INPUT: true; the input reads as it did. -/
def fnExactAgeOfShipSpec : ChangeSpec := { name := "fnExactAgeOfShip", fn := fun _ => fun
  | [d] => { results := [.lit (.bool true)], args := [d] }
  | _ => none }
def fnExactAgeOfShipRow : OpenClaim := { program := "ytldkcddjligbdaa", sum := "14878f8596ef8845247a8376cc3307f9134cb2cf8cce4cbaf3887fa9f251dd95", func := "loop.example/g01010/laws.FnExactAgeOfShip", spec := "fnExactAgeOfShip", inPlace := ["internal/bytealg.abigen_runtime_cmpstring"], unfollowed := true, recurses := true, apart := false }
def FnExactAgeOfShipSaid : Prop := fnExactAgeOfShipRow.holds Try.pinned (OpenSpec.ofChange fnExactAgeOfShipSpec)

/-- ITS FALSE NEIGHBOUR: 'it returns false'. Refute it at one input. -/
def fnExactAgeOfShipWrong : ChangeSpec := { name := "fnExactAgeOfShip", fn := fun _ => fun
  | [d] => { results := [.lit (.bool false)], args := [d] }
  | _ => none }
def FnExactAgeOfShipWrongFalsely : Prop := fnExactAgeOfShipRow.holds Try.pinned (OpenSpec.ofChange fnExactAgeOfShipWrong)

/-- 'laws.FnExactGainOf': WHATEVER THE INPUT: true; the input reads as it did. -/
def fnExactGainOfSpec : ChangeSpec := { name := "fnExactGainOf", fn := fun _ => fun
  | [d1, d2] => { results := [.lit (.bool true)], args := [d1, d2] }
  | _ => none }
def fnExactGainOfRow : OpenClaim := { program := "ytldkcddjligbdaa", sum := "14878f8596ef8845247a8376cc3307f9134cb2cf8cce4cbaf3887fa9f251dd95", func := "loop.example/g01010/laws.FnExactGainOf", spec := "fnExactGainOf", unfollowed := true, recurses := true, apart := false }
def FnExactGainOfSaid : Prop := fnExactGainOfRow.holds Try.pinned (OpenSpec.ofChange fnExactGainOfSpec)

/-- ITS FALSE NEIGHBOUR: 'it returns false'. Refute it at one input. -/
def fnExactGainOfWrong : ChangeSpec := { name := "fnExactGainOf", fn := fun _ => fun
  | [d1, d2] => { results := [.lit (.bool false)], args := [d1, d2] }
  | _ => none }
def FnExactGainOfWrongFalsely : Prop := fnExactGainOfRow.holds Try.pinned (OpenSpec.ofChange fnExactGainOfWrong)

/-- 'laws.FnExactBestChoice': WHATEVER THE INPUT: true; the input reads as it did. -/
def fnExactBestChoiceSpec : ChangeSpec := { name := "fnExactBestChoice", fn := fun _ => fun
  | [d1, d2] => { results := [.lit (.bool true)], args := [d1, d2] }
  | _ => none }
def fnExactBestChoiceRow : OpenClaim := { program := "ytldkcddjligbdaa", sum := "14878f8596ef8845247a8376cc3307f9134cb2cf8cce4cbaf3887fa9f251dd95", func := "loop.example/g01010/laws.FnExactBestChoice", spec := "fnExactBestChoice", unfollowed := true, recurses := true, apart := false }
def FnExactBestChoiceSaid : Prop := fnExactBestChoiceRow.holds Try.pinned (OpenSpec.ofChange fnExactBestChoiceSpec)

/-- ITS FALSE NEIGHBOUR: 'it returns false'. Refute it at one input. -/
def fnExactBestChoiceWrong : ChangeSpec := { name := "fnExactBestChoice", fn := fun _ => fun
  | [d1, d2] => { results := [.lit (.bool false)], args := [d1, d2] }
  | _ => none }
def FnExactBestChoiceWrongFalsely : Prop := fnExactBestChoiceRow.holds Try.pinned (OpenSpec.ofChange fnExactBestChoiceWrong)

/-- 'laws.FnExactIsChoice': WHATEVER THE INPUT: true; the input reads as it did. -/
def fnExactIsChoiceSpec : ChangeSpec := { name := "fnExactIsChoice", fn := fun _ => fun
  | [d1, d2, d3] => { results := [.lit (.bool true)], args := [d1, d2, d3] }
  | _ => none }
def fnExactIsChoiceRow : OpenClaim := { program := "ytldkcddjligbdaa", sum := "14878f8596ef8845247a8376cc3307f9134cb2cf8cce4cbaf3887fa9f251dd95", func := "loop.example/g01010/laws.FnExactIsChoice", spec := "fnExactIsChoice", unfollowed := true, recurses := true, apart := false }
def FnExactIsChoiceSaid : Prop := fnExactIsChoiceRow.holds Try.pinned (OpenSpec.ofChange fnExactIsChoiceSpec)

/-- ITS FALSE NEIGHBOUR: 'it returns false'. Refute it at one input. -/
def fnExactIsChoiceWrong : ChangeSpec := { name := "fnExactIsChoice", fn := fun _ => fun
  | [d1, d2, d3] => { results := [.lit (.bool false)], args := [d1, d2, d3] }
  | _ => none }
def FnExactIsChoiceWrongFalsely : Prop := fnExactIsChoiceRow.holds Try.pinned (OpenSpec.ofChange fnExactIsChoiceWrong)

/-- 'laws.FnExactNetOfEvent': WHATEVER THE INPUT: true; the input reads as it did. -/
def fnExactNetOfEventSpec : ChangeSpec := { name := "fnExactNetOfEvent", fn := fun _ => fun
  | [d1, d2, d3] => { results := [.lit (.bool true)], args := [d1, d2, d3] }
  | _ => none }
def fnExactNetOfEventRow : OpenClaim := { program := "ytldkcddjligbdaa", sum := "14878f8596ef8845247a8376cc3307f9134cb2cf8cce4cbaf3887fa9f251dd95", func := "loop.example/g01010/laws.FnExactNetOfEvent", spec := "fnExactNetOfEvent", apart := false }
def FnExactNetOfEventSaid : Prop := fnExactNetOfEventRow.holds Try.pinned (OpenSpec.ofChange fnExactNetOfEventSpec)

/-- ITS FALSE NEIGHBOUR: 'it returns false'. Refute it at one input. -/
def fnExactNetOfEventWrong : ChangeSpec := { name := "fnExactNetOfEvent", fn := fun _ => fun
  | [d1, d2, d3] => { results := [.lit (.bool false)], args := [d1, d2, d3] }
  | _ => none }
def FnExactNetOfEventWrongFalsely : Prop := fnExactNetOfEventRow.holds Try.pinned (OpenSpec.ofChange fnExactNetOfEventWrong)

/-- 'laws.FnExactTotalDeduction': WHATEVER THE INPUT: true; the input reads as it did. -/
def fnExactTotalDeductionSpec : ChangeSpec := { name := "fnExactTotalDeduction", fn := fun _ => fun
  | [d1, d2, d3] => { results := [.lit (.bool true)], args := [d1, d2, d3] }
  | _ => none }
def fnExactTotalDeductionRow : OpenClaim := { program := "ytldkcddjligbdaa", sum := "14878f8596ef8845247a8376cc3307f9134cb2cf8cce4cbaf3887fa9f251dd95", func := "loop.example/g01010/laws.FnExactTotalDeduction", spec := "fnExactTotalDeduction", apart := false }
def FnExactTotalDeductionSaid : Prop := fnExactTotalDeductionRow.holds Try.pinned (OpenSpec.ofChange fnExactTotalDeductionSpec)

/-- ITS FALSE NEIGHBOUR: 'it returns false'. Refute it at one input. -/
def fnExactTotalDeductionWrong : ChangeSpec := { name := "fnExactTotalDeduction", fn := fun _ => fun
  | [d1, d2, d3] => { results := [.lit (.bool false)], args := [d1, d2, d3] }
  | _ => none }
def FnExactTotalDeductionWrongFalsely : Prop := fnExactTotalDeductionRow.holds Try.pinned (OpenSpec.ofChange fnExactTotalDeductionWrong)

/-- 'laws.FnSubstituted': WHATEVER THE INPUT: true; the input reads as it did. -/
def fnSubstitutedSpec : ChangeSpec := { name := "fnSubstituted", fn := fun _ => fun
  | [d] => { results := [.lit (.bool true)], args := [d] }
  | _ => none }
def fnSubstitutedRow : OpenClaim := { program := "ytldkcddjligbdaa", sum := "14878f8596ef8845247a8376cc3307f9134cb2cf8cce4cbaf3887fa9f251dd95", func := "loop.example/g01010/laws.FnSubstituted", spec := "fnSubstituted", unfollowed := true, recurses := true, apart := false }
def FnSubstitutedSaid : Prop := fnSubstitutedRow.holds Try.pinned (OpenSpec.ofChange fnSubstitutedSpec)

/-- ITS FALSE NEIGHBOUR: 'it returns false'. Refute it at one input. -/
def fnSubstitutedWrong : ChangeSpec := { name := "fnSubstituted", fn := fun _ => fun
  | [d] => { results := [.lit (.bool false)], args := [d] }
  | _ => none }
def FnSubstitutedWrongFalsely : Prop := fnSubstitutedRow.holds Try.pinned (OpenSpec.ofChange fnSubstitutedWrong)

/-- 'laws.FnDeductions': WHATEVER THE INPUT: true; the input reads as it did. -/
def fnDeductionsSpec : ChangeSpec := { name := "fnDeductions", fn := fun _ => fun
  | [d] => { results := [.lit (.bool true)], args := [d] }
  | _ => none }
def fnDeductionsRow : OpenClaim := { program := "ytldkcddjligbdaa", sum := "14878f8596ef8845247a8376cc3307f9134cb2cf8cce4cbaf3887fa9f251dd95", func := "loop.example/g01010/laws.FnDeductions", spec := "fnDeductions", inPlace := ["internal/bytealg.abigen_runtime_cmpstring"], unfollowed := true, recurses := true, apart := false }
def FnDeductionsSaid : Prop := fnDeductionsRow.holds Try.pinned (OpenSpec.ofChange fnDeductionsSpec)

/-- ITS FALSE NEIGHBOUR: 'it returns false'. Refute it at one input. -/
def fnDeductionsWrong : ChangeSpec := { name := "fnDeductions", fn := fun _ => fun
  | [d] => { results := [.lit (.bool false)], args := [d] }
  | _ => none }
def FnDeductionsWrongFalsely : Prop := fnDeductionsRow.holds Try.pinned (OpenSpec.ofChange fnDeductionsWrong)

/- THE SECOND FORM. 'bulk': how many values and letters a reading holds, each counted each time it is reached (what is shared counts as often as it is met; a slice's spare places count too). A statement '..UptoSaid' is the law's where the arguments, and the package variables that the reading takes, are together of bulk at most 1048576: NARROWER than '..Said'. Prove '..Said' where nothing that the law and all that it calls make is longer than what came in: it says more and counts as full. Else prove '..UptoSaid'. A law counts once. -/
mutual
def uptoBulk {H : Type} : DataW H → Nat
  | .lit (.string bytes) => bytes.length + 1
  | .lit _ => 1
  | .nil => 1
  | .ptr d => uptoBulk d + 1
  | .slice elems spare => uptoBulkAll elems + uptoBulkAll spare + 1
  | .agg parts => uptoBulkAll parts + 1
  | .iface _ d => uptoBulk d + 1
  | .map entries => uptoBulkEntries entries + 1
  | .held _ => 1
def uptoBulkAll {H : Type} : List (DataW H) → Nat
  | [] => 0
  | d :: r => uptoBulk d + uptoBulkAll r
def uptoBulkEntries {H : Type} : List (Lit × DataW H) → Nat
  | [] => 0
  | x :: r => uptoBulkEntry x + uptoBulkEntries r
def uptoBulkEntry {H : Type} : Lit × DataW H → Nat
  | (.string bytes, d) => bytes.length + uptoBulk d + 1
  | (_, d) => uptoBulk d + 1
 end
def uptoSmall : (H : Type) → List (DataW H) → Bool := fun _ ds => decide (uptoBulkAll ds ≤ 1048576)
def OpenSpec.upto (s : _root_.Go.ChangeSpec) : _root_.Go.OpenSpec := { _root_.Go.OpenSpec.ofChange s with cond := some uptoSmall }

/-- 'laws.FnExactBestOption', WHERE WHAT IT READS IS OF BULK AT MOST 1048576: true; the input reads as it did. -/
def fnExactBestOptionUptoRow : OpenClaim := { program := "ytldkcddjligbdaa", sum := "14878f8596ef8845247a8376cc3307f9134cb2cf8cce4cbaf3887fa9f251dd95", func := "loop.example/g01010/laws.FnExactBestOption", spec := "fnExactBestOption", unfollowed := true, recurses := true, apart := false, narrowed := true }
def FnExactBestOptionUptoSaid : Prop := fnExactBestOptionUptoRow.holds Try.pinned (OpenSpec.upto fnExactBestOptionSpec)

/-- 'laws.FnExactPointsForAge', WHERE WHAT IT READS IS OF BULK AT MOST 1048576: true; the input reads as it did. -/
def fnExactPointsForAgeUptoRow : OpenClaim := { program := "ytldkcddjligbdaa", sum := "14878f8596ef8845247a8376cc3307f9134cb2cf8cce4cbaf3887fa9f251dd95", func := "loop.example/g01010/laws.FnExactPointsForAge", spec := "fnExactPointsForAge", apart := false, narrowed := true }
def FnExactPointsForAgeUptoSaid : Prop := fnExactPointsForAgeUptoRow.holds Try.pinned (OpenSpec.upto fnExactPointsForAgeSpec)

/-- 'laws.FnExactTotalAllowed', WHERE WHAT IT READS IS OF BULK AT MOST 1048576: true; the input reads as it did. -/
def fnExactTotalAllowedUptoRow : OpenClaim := { program := "ytldkcddjligbdaa", sum := "14878f8596ef8845247a8376cc3307f9134cb2cf8cce4cbaf3887fa9f251dd95", func := "loop.example/g01010/laws.FnExactTotalAllowed", spec := "fnExactTotalAllowed", unfollowed := true, recurses := true, apart := false, narrowed := true }
def FnExactTotalAllowedUptoSaid : Prop := fnExactTotalAllowedUptoRow.holds Try.pinned (OpenSpec.upto fnExactTotalAllowedSpec)

/-- 'laws.FnExactDeductionOf', WHERE WHAT IT READS IS OF BULK AT MOST 1048576: true; the input reads as it did. -/
def fnExactDeductionOfUptoRow : OpenClaim := { program := "ytldkcddjligbdaa", sum := "14878f8596ef8845247a8376cc3307f9134cb2cf8cce4cbaf3887fa9f251dd95", func := "loop.example/g01010/laws.FnExactDeductionOf", spec := "fnExactDeductionOf", apart := false, narrowed := true }
def FnExactDeductionOfUptoSaid : Prop := fnExactDeductionOfUptoRow.holds Try.pinned (OpenSpec.upto fnExactDeductionOfSpec)

/-- 'laws.FnExactAgeOfShip', WHERE WHAT IT READS IS OF BULK AT MOST 1048576: true; the input reads as it did. -/
def fnExactAgeOfShipUptoRow : OpenClaim := { program := "ytldkcddjligbdaa", sum := "14878f8596ef8845247a8376cc3307f9134cb2cf8cce4cbaf3887fa9f251dd95", func := "loop.example/g01010/laws.FnExactAgeOfShip", spec := "fnExactAgeOfShip", inPlace := ["internal/bytealg.abigen_runtime_cmpstring"], unfollowed := true, recurses := true, apart := false, narrowed := true }
def FnExactAgeOfShipUptoSaid : Prop := fnExactAgeOfShipUptoRow.holds Try.pinned (OpenSpec.upto fnExactAgeOfShipSpec)

/-- 'laws.FnExactGainOf', WHERE WHAT IT READS IS OF BULK AT MOST 1048576: true; the input reads as it did. -/
def fnExactGainOfUptoRow : OpenClaim := { program := "ytldkcddjligbdaa", sum := "14878f8596ef8845247a8376cc3307f9134cb2cf8cce4cbaf3887fa9f251dd95", func := "loop.example/g01010/laws.FnExactGainOf", spec := "fnExactGainOf", unfollowed := true, recurses := true, apart := false, narrowed := true }
def FnExactGainOfUptoSaid : Prop := fnExactGainOfUptoRow.holds Try.pinned (OpenSpec.upto fnExactGainOfSpec)

/-- 'laws.FnExactBestChoice', WHERE WHAT IT READS IS OF BULK AT MOST 1048576: true; the input reads as it did. -/
def fnExactBestChoiceUptoRow : OpenClaim := { program := "ytldkcddjligbdaa", sum := "14878f8596ef8845247a8376cc3307f9134cb2cf8cce4cbaf3887fa9f251dd95", func := "loop.example/g01010/laws.FnExactBestChoice", spec := "fnExactBestChoice", unfollowed := true, recurses := true, apart := false, narrowed := true }
def FnExactBestChoiceUptoSaid : Prop := fnExactBestChoiceUptoRow.holds Try.pinned (OpenSpec.upto fnExactBestChoiceSpec)

/-- 'laws.FnExactIsChoice', WHERE WHAT IT READS IS OF BULK AT MOST 1048576: true; the input reads as it did. -/
def fnExactIsChoiceUptoRow : OpenClaim := { program := "ytldkcddjligbdaa", sum := "14878f8596ef8845247a8376cc3307f9134cb2cf8cce4cbaf3887fa9f251dd95", func := "loop.example/g01010/laws.FnExactIsChoice", spec := "fnExactIsChoice", unfollowed := true, recurses := true, apart := false, narrowed := true }
def FnExactIsChoiceUptoSaid : Prop := fnExactIsChoiceUptoRow.holds Try.pinned (OpenSpec.upto fnExactIsChoiceSpec)

/-- 'laws.FnExactNetOfEvent', WHERE WHAT IT READS IS OF BULK AT MOST 1048576: true; the input reads as it did. -/
def fnExactNetOfEventUptoRow : OpenClaim := { program := "ytldkcddjligbdaa", sum := "14878f8596ef8845247a8376cc3307f9134cb2cf8cce4cbaf3887fa9f251dd95", func := "loop.example/g01010/laws.FnExactNetOfEvent", spec := "fnExactNetOfEvent", apart := false, narrowed := true }
def FnExactNetOfEventUptoSaid : Prop := fnExactNetOfEventUptoRow.holds Try.pinned (OpenSpec.upto fnExactNetOfEventSpec)

/-- 'laws.FnExactTotalDeduction', WHERE WHAT IT READS IS OF BULK AT MOST 1048576: true; the input reads as it did. -/
def fnExactTotalDeductionUptoRow : OpenClaim := { program := "ytldkcddjligbdaa", sum := "14878f8596ef8845247a8376cc3307f9134cb2cf8cce4cbaf3887fa9f251dd95", func := "loop.example/g01010/laws.FnExactTotalDeduction", spec := "fnExactTotalDeduction", apart := false, narrowed := true }
def FnExactTotalDeductionUptoSaid : Prop := fnExactTotalDeductionUptoRow.holds Try.pinned (OpenSpec.upto fnExactTotalDeductionSpec)

/-- 'laws.FnSubstituted', WHERE WHAT IT READS IS OF BULK AT MOST 1048576: true; the input reads as it did. -/
def fnSubstitutedUptoRow : OpenClaim := { program := "ytldkcddjligbdaa", sum := "14878f8596ef8845247a8376cc3307f9134cb2cf8cce4cbaf3887fa9f251dd95", func := "loop.example/g01010/laws.FnSubstituted", spec := "fnSubstituted", unfollowed := true, recurses := true, apart := false, narrowed := true }
def FnSubstitutedUptoSaid : Prop := fnSubstitutedUptoRow.holds Try.pinned (OpenSpec.upto fnSubstitutedSpec)

/-- 'laws.FnDeductions', WHERE WHAT IT READS IS OF BULK AT MOST 1048576: true; the input reads as it did. -/
def fnDeductionsUptoRow : OpenClaim := { program := "ytldkcddjligbdaa", sum := "14878f8596ef8845247a8376cc3307f9134cb2cf8cce4cbaf3887fa9f251dd95", func := "loop.example/g01010/laws.FnDeductions", spec := "fnDeductions", inPlace := ["internal/bytealg.abigen_runtime_cmpstring"], unfollowed := true, recurses := true, apart := false, narrowed := true }
def FnDeductionsUptoSaid : Prop := fnDeductionsUptoRow.holds Try.pinned (OpenSpec.upto fnDeductionsSpec)

end Rows
end Go.Proofs.Ytldkcddjligbdaa
