/-
  No cell of these rows narrows 'for every input' (looked for: loops, veiled, ifaces, maps, wideKeys, modest, calm, conditions, laid).
  DERIVED. THE GIVEN ROWS OF THIS SEAT. 6 by the template 'for every input the law returns true; each argument reads behind the call as it read before'; 0 by the template 'total and deterministic' (their statements: YtmfbkbbgokjhnaaGreatTotals.lean).
  GIVEN WITH THE SEED: the statements are not yours to turn. If you find one false, say at which input.
  Laid BY PROGRAM, IN A SANDBOX (cutbox-rows.mjs): the forced cells as the released guide's own fill.sh prints them over the translation 765a2916bf2254b5… (all of the seat's roots in one cut). By AI agents, Wed Nov 11 2026. No macro, syntax, notation, axiom, sorry.
-/
import Derived.Test.YtmfbkbbgokjhnaaGreatChecked
import GoSem.Claim
import GoSem.ClaimJoined
import GoSem.ClaimMapViews
import Derived.JoinedTies
import Derived.KernelRfl
namespace Go.Proofs.YtmfbkbbgokjhnaaGreat
/- THE CELL 'sum', in the pinned program and in every row, IS THE sha256 OF THE DUMP (.gsa) THAT YtmfbkbbgokjhnaaGreatProg.lean LOADS. Nothing in Lean hashes anything: it is a label: what it is worth is what the hold of that sum in a sandbox is worth. -/
noncomputable def Tryz.pinned : Pinned := { name := "ytmfbkbbgokjhnaagreat", sum := "765a2916bf2254b5a2e18a4667122e6716720cd2c8aeac2515871086e12fe2d3", checked := Tryz.checked }
namespace Rows
def none {H : Type} : Left H := { results := [], args := [] }

/-- 'laws.FnExactIsCase': WHATEVER THE INPUT: true; the input reads as it did. -/
def fnExactIsCaseSpec : ChangeSpec := { name := "fnExactIsCase", fn := fun _ => fun
  | [d] => { results := [.lit (.bool true)], args := [d] }
  | _ => none }
def fnExactIsCaseRow : OpenClaim := { program := "ytmfbkbbgokjhnaagreat", sum := "765a2916bf2254b5a2e18a4667122e6716720cd2c8aeac2515871086e12fe2d3", func := "loop.example/g01010/laws.FnExactIsCase", spec := "fnExactIsCase", inPlace := ["internal/bytealg.abigen_runtime_cmpstring"], unfollowed := true, recurses := true, apart := false }
def FnExactIsCaseSaid : Prop := fnExactIsCaseRow.holds Tryz.pinned (OpenSpec.ofChange fnExactIsCaseSpec)

/-- ITS FALSE NEIGHBOUR: 'it returns false'. Refute it at one input. -/
def fnExactIsCaseWrong : ChangeSpec := { name := "fnExactIsCase", fn := fun _ => fun
  | [d] => { results := [.lit (.bool false)], args := [d] }
  | _ => none }
def FnExactIsCaseWrongFalsely : Prop := fnExactIsCaseRow.holds Tryz.pinned (OpenSpec.ofChange fnExactIsCaseWrong)

/-- 'laws.FnExactSettleOn': WHATEVER THE INPUT: true; the input reads as it did. -/
def fnExactSettleOnSpec : ChangeSpec := { name := "fnExactSettleOn", fn := fun _ => fun
  | [d1, d2] => { results := [.lit (.bool true)], args := [d1, d2] }
  | _ => none }
def fnExactSettleOnRow : OpenClaim := { program := "ytmfbkbbgokjhnaagreat", sum := "765a2916bf2254b5a2e18a4667122e6716720cd2c8aeac2515871086e12fe2d3", func := "loop.example/g01010/laws.FnExactSettleOn", spec := "fnExactSettleOn", inPlace := ["internal/bytealg.abigen_runtime_cmpstring"], unfollowed := true, recurses := true, apart := false }
def FnExactSettleOnSaid : Prop := fnExactSettleOnRow.holds Tryz.pinned (OpenSpec.ofChange fnExactSettleOnSpec)

/-- ITS FALSE NEIGHBOUR: 'it returns false'. Refute it at one input. -/
def fnExactSettleOnWrong : ChangeSpec := { name := "fnExactSettleOn", fn := fun _ => fun
  | [d1, d2] => { results := [.lit (.bool false)], args := [d1, d2] }
  | _ => none }
def FnExactSettleOnWrongFalsely : Prop := fnExactSettleOnRow.holds Tryz.pinned (OpenSpec.ofChange fnExactSettleOnWrong)

/-- 'laws.FnExactInterestsOf': WHATEVER THE INPUT: true; the input reads as it did. -/
def fnExactInterestsOfSpec : ChangeSpec := { name := "fnExactInterestsOf", fn := fun _ => fun
  | [d] => { results := [.lit (.bool true)], args := [d] }
  | _ => none }
def fnExactInterestsOfRow : OpenClaim := { program := "ytmfbkbbgokjhnaagreat", sum := "765a2916bf2254b5a2e18a4667122e6716720cd2c8aeac2515871086e12fe2d3", func := "loop.example/g01010/laws.FnExactInterestsOf", spec := "fnExactInterestsOf", inPlace := ["internal/bytealg.abigen_runtime_cmpstring"], unfollowed := true, recurses := true, apart := false }
def FnExactInterestsOfSaid : Prop := fnExactInterestsOfRow.holds Tryz.pinned (OpenSpec.ofChange fnExactInterestsOfSpec)

/-- ITS FALSE NEIGHBOUR: 'it returns false'. Refute it at one input. -/
def fnExactInterestsOfWrong : ChangeSpec := { name := "fnExactInterestsOf", fn := fun _ => fun
  | [d] => { results := [.lit (.bool false)], args := [d] }
  | _ => none }
def FnExactInterestsOfWrongFalsely : Prop := fnExactInterestsOfRow.holds Tryz.pinned (OpenSpec.ofChange fnExactInterestsOfWrong)

/-- 'laws.FnExactMadeGoodFor': WHATEVER THE INPUT: true; the input reads as it did. -/
def fnExactMadeGoodForSpec : ChangeSpec := { name := "fnExactMadeGoodFor", fn := fun _ => fun
  | [d] => { results := [.lit (.bool true)], args := [d] }
  | _ => none }
def fnExactMadeGoodForRow : OpenClaim := { program := "ytmfbkbbgokjhnaagreat", sum := "765a2916bf2254b5a2e18a4667122e6716720cd2c8aeac2515871086e12fe2d3", func := "loop.example/g01010/laws.FnExactMadeGoodFor", spec := "fnExactMadeGoodFor", inPlace := ["internal/bytealg.abigen_runtime_cmpstring"], unfollowed := true, recurses := true, apart := false }
def FnExactMadeGoodForSaid : Prop := fnExactMadeGoodForRow.holds Tryz.pinned (OpenSpec.ofChange fnExactMadeGoodForSpec)

/-- ITS FALSE NEIGHBOUR: 'it returns false'. Refute it at one input. -/
def fnExactMadeGoodForWrong : ChangeSpec := { name := "fnExactMadeGoodFor", fn := fun _ => fun
  | [d] => { results := [.lit (.bool false)], args := [d] }
  | _ => none }
def FnExactMadeGoodForWrongFalsely : Prop := fnExactMadeGoodForRow.holds Tryz.pinned (OpenSpec.ofChange fnExactMadeGoodForWrong)

/-- 'laws.FnExactTotalMadeGood': WHATEVER THE INPUT: true; the input reads as it did. -/
def fnExactTotalMadeGoodSpec : ChangeSpec := { name := "fnExactTotalMadeGood", fn := fun _ => fun
  | [d] => { results := [.lit (.bool true)], args := [d] }
  | _ => none }
def fnExactTotalMadeGoodRow : OpenClaim := { program := "ytmfbkbbgokjhnaagreat", sum := "765a2916bf2254b5a2e18a4667122e6716720cd2c8aeac2515871086e12fe2d3", func := "loop.example/g01010/laws.FnExactTotalMadeGood", spec := "fnExactTotalMadeGood", inPlace := ["internal/bytealg.abigen_runtime_cmpstring"], unfollowed := true, recurses := true, apart := false }
def FnExactTotalMadeGoodSaid : Prop := fnExactTotalMadeGoodRow.holds Tryz.pinned (OpenSpec.ofChange fnExactTotalMadeGoodSpec)

/-- ITS FALSE NEIGHBOUR: 'it returns false'. Refute it at one input. -/
def fnExactTotalMadeGoodWrong : ChangeSpec := { name := "fnExactTotalMadeGood", fn := fun _ => fun
  | [d] => { results := [.lit (.bool false)], args := [d] }
  | _ => none }
def FnExactTotalMadeGoodWrongFalsely : Prop := fnExactTotalMadeGoodRow.holds Tryz.pinned (OpenSpec.ofChange fnExactTotalMadeGoodWrong)

/-- 'laws.FnExactAllowancesOf': WHATEVER THE INPUT: true; the input reads as it did. -/
def fnExactAllowancesOfSpec : ChangeSpec := { name := "fnExactAllowancesOf", fn := fun _ => fun
  | [d] => { results := [.lit (.bool true)], args := [d] }
  | _ => none }
def fnExactAllowancesOfRow : OpenClaim := { program := "ytmfbkbbgokjhnaagreat", sum := "765a2916bf2254b5a2e18a4667122e6716720cd2c8aeac2515871086e12fe2d3", func := "loop.example/g01010/laws.FnExactAllowancesOf", spec := "fnExactAllowancesOf", inPlace := ["internal/bytealg.abigen_runtime_cmpstring"], unfollowed := true, recurses := true, apart := false }
def FnExactAllowancesOfSaid : Prop := fnExactAllowancesOfRow.holds Tryz.pinned (OpenSpec.ofChange fnExactAllowancesOfSpec)

/-- ITS FALSE NEIGHBOUR: 'it returns false'. Refute it at one input. -/
def fnExactAllowancesOfWrong : ChangeSpec := { name := "fnExactAllowancesOf", fn := fun _ => fun
  | [d] => { results := [.lit (.bool false)], args := [d] }
  | _ => none }
def FnExactAllowancesOfWrongFalsely : Prop := fnExactAllowancesOfRow.holds Tryz.pinned (OpenSpec.ofChange fnExactAllowancesOfWrong)

/- THE SECOND FORM. 'bulk': how many values and letters a reading holds, each counted each time it is reached (what is shared counts as often as it is met; a slice's spare places count too). A statement '..UptoSaid' is the law's where the arguments, and the package variables that the reading takes, are together of bulk at most 1048576: NARROWER than '..Said'. Prove '..Said' where nothing that the law and all that it calls make is longer than what came in: it says more and counts as full. Else prove '..UptoSaid'. A law counts once. -/
mutual
def uptoBulk {H : Type} : DataW H → Nat
  | .lit (.string bytes) => bytes.length + 1
  | .lit _ => 1
  | .nil => 1
  | .ptr d => uptoBulk d + 1
  | .slice elems spare => uptoBulkAll elems + uptoBulkAll spare + 1
  | .agg parts => uptoBulkAll parts + 1
  | .iface _ d => uptoBulk d + 1
  | .map entries => uptoBulkEntries entries + 1
  | .held _ => 1
def uptoBulkAll {H : Type} : List (DataW H) → Nat
  | [] => 0
  | d :: r => uptoBulk d + uptoBulkAll r
def uptoBulkEntries {H : Type} : List (Lit × DataW H) → Nat
  | [] => 0
  | x :: r => uptoBulkEntry x + uptoBulkEntries r
def uptoBulkEntry {H : Type} : Lit × DataW H → Nat
  | (.string bytes, d) => bytes.length + uptoBulk d + 1
  | (_, d) => uptoBulk d + 1
 end
def uptoSmall : (H : Type) → List (DataW H) → Bool := fun _ ds => decide (uptoBulkAll ds ≤ 1048576)
def OpenSpec.upto (s : _root_.Go.ChangeSpec) : _root_.Go.OpenSpec := { _root_.Go.OpenSpec.ofChange s with cond := some uptoSmall }

/-- 'laws.FnExactIsCase', WHERE WHAT IT READS IS OF BULK AT MOST 1048576: true; the input reads as it did. -/
def fnExactIsCaseUptoRow : OpenClaim := { program := "ytmfbkbbgokjhnaagreat", sum := "765a2916bf2254b5a2e18a4667122e6716720cd2c8aeac2515871086e12fe2d3", func := "loop.example/g01010/laws.FnExactIsCase", spec := "fnExactIsCase", inPlace := ["internal/bytealg.abigen_runtime_cmpstring"], unfollowed := true, recurses := true, apart := false, narrowed := true }
def FnExactIsCaseUptoSaid : Prop := fnExactIsCaseUptoRow.holds Tryz.pinned (OpenSpec.upto fnExactIsCaseSpec)

/-- 'laws.FnExactSettleOn', WHERE WHAT IT READS IS OF BULK AT MOST 1048576: true; the input reads as it did. -/
def fnExactSettleOnUptoRow : OpenClaim := { program := "ytmfbkbbgokjhnaagreat", sum := "765a2916bf2254b5a2e18a4667122e6716720cd2c8aeac2515871086e12fe2d3", func := "loop.example/g01010/laws.FnExactSettleOn", spec := "fnExactSettleOn", inPlace := ["internal/bytealg.abigen_runtime_cmpstring"], unfollowed := true, recurses := true, apart := false, narrowed := true }
def FnExactSettleOnUptoSaid : Prop := fnExactSettleOnUptoRow.holds Tryz.pinned (OpenSpec.upto fnExactSettleOnSpec)

/-- 'laws.FnExactInterestsOf', WHERE WHAT IT READS IS OF BULK AT MOST 1048576: true; the input reads as it did. -/
def fnExactInterestsOfUptoRow : OpenClaim := { program := "ytmfbkbbgokjhnaagreat", sum := "765a2916bf2254b5a2e18a4667122e6716720cd2c8aeac2515871086e12fe2d3", func := "loop.example/g01010/laws.FnExactInterestsOf", spec := "fnExactInterestsOf", inPlace := ["internal/bytealg.abigen_runtime_cmpstring"], unfollowed := true, recurses := true, apart := false, narrowed := true }
def FnExactInterestsOfUptoSaid : Prop := fnExactInterestsOfUptoRow.holds Tryz.pinned (OpenSpec.upto fnExactInterestsOfSpec)

/-- 'laws.FnExactMadeGoodFor', WHERE WHAT IT READS IS OF BULK AT MOST 1048576: true; the input reads as it did. -/
def fnExactMadeGoodForUptoRow : OpenClaim := { program := "ytmfbkbbgokjhnaagreat", sum := "765a2916bf2254b5a2e18a4667122e6716720cd2c8aeac2515871086e12fe2d3", func := "loop.example/g01010/laws.FnExactMadeGoodFor", spec := "fnExactMadeGoodFor", inPlace := ["internal/bytealg.abigen_runtime_cmpstring"], unfollowed := true, recurses := true, apart := false, narrowed := true }
def FnExactMadeGoodForUptoSaid : Prop := fnExactMadeGoodForUptoRow.holds Tryz.pinned (OpenSpec.upto fnExactMadeGoodForSpec)

/-- 'laws.FnExactTotalMadeGood', WHERE WHAT IT READS IS OF BULK AT MOST 1048576: true; the input reads as it did. -/
def fnExactTotalMadeGoodUptoRow : OpenClaim := { program := "ytmfbkbbgokjhnaagreat", sum := "765a2916bf2254b5a2e18a4667122e6716720cd2c8aeac2515871086e12fe2d3", func := "loop.example/g01010/laws.FnExactTotalMadeGood", spec := "fnExactTotalMadeGood", inPlace := ["internal/bytealg.abigen_runtime_cmpstring"], unfollowed := true, recurses := true, apart := false, narrowed := true }
def FnExactTotalMadeGoodUptoSaid : Prop := fnExactTotalMadeGoodUptoRow.holds Tryz.pinned (OpenSpec.upto fnExactTotalMadeGoodSpec)

/-- 'laws.FnExactAllowancesOf', WHERE WHAT IT READS IS OF BULK AT MOST 1048576: true; the input reads as it did. -/
def fnExactAllowancesOfUptoRow : OpenClaim := { program := "ytmfbkbbgokjhnaagreat", sum := "765a2916bf2254b5a2e18a4667122e6716720cd2c8aeac2515871086e12fe2d3", func := "loop.example/g01010/laws.FnExactAllowancesOf", spec := "fnExactAllowancesOf", inPlace := ["internal/bytealg.abigen_runtime_cmpstring"], unfollowed := true, recurses := true, apart := false, narrowed := true }
def FnExactAllowancesOfUptoSaid : Prop := fnExactAllowancesOfUptoRow.holds Tryz.pinned (OpenSpec.upto fnExactAllowancesOfSpec)

end Rows
end Go.Proofs.YtmfbkbbgokjhnaaGreat
