/-
  No cell of these rows narrows 'for every input' (looked for: loops, veiled, ifaces, maps, wideKeys, modest, calm, conditions, laid).
  DERIVED. THE GIVEN ROWS OF THIS SEAT. 6 by the template 'for every input the law returns true; each argument reads behind the call as it read before'; 0 by the template 'total and deterministic' (their statements: YtalgglmkdhajfaaTotals.lean).
  GIVEN WITH THE SEED: the statements are not yours to turn. If you find one false, say at which input.
  Laid BY PROGRAM, IN A SANDBOX (cutbox-rows.mjs): the forced cells as the released guide's own fill.sh prints them over the translation b40d68e0b76214c6… (all of the seat's roots in one cut). By AI agents, Wed Nov 11 2026. No macro, syntax, notation, axiom, sorry.
-/
import Derived.Test.YtalgglmkdhajfaaChecked
import GoSem.Claim
import GoSem.ClaimJoined
import GoSem.ClaimMapViews
import Derived.JoinedTies
import Derived.KernelRfl
namespace Go.Proofs.Ytalgglmkdhajfaa
/- THE CELL 'sum', in the pinned program and in every row, IS THE sha256 OF THE DUMP (.gsa) THAT YtalgglmkdhajfaaProg.lean LOADS. Nothing in Lean hashes anything: it is a label: what it is worth is what the hold of that sum in a sandbox is worth. -/
noncomputable def Try.pinned : Pinned := { name := "ytalgglmkdhajfaa", sum := "b40d68e0b76214c6c26115d03539aa6786136fbb22025fe376099d7fdd30dde2", checked := Try.checked }
namespace Rows
def none {H : Type} : Left H := { results := [], args := [] }

/-- 'laws.FnExactIsOption': WHATEVER THE INPUT: true; the input reads as it did. -/
def fnExactIsOptionSpec : ChangeSpec := { name := "fnExactIsOption", fn := fun _ => fun
  | [d] => { results := [.lit (.bool true)], args := [d] }
  | _ => none }
def fnExactIsOptionRow : OpenClaim := { program := "ytalgglmkdhajfaa", sum := "b40d68e0b76214c6c26115d03539aa6786136fbb22025fe376099d7fdd30dde2", func := "loop.example/g01010/laws.FnExactIsOption", spec := "fnExactIsOption", apart := false }
def FnExactIsOptionSaid : Prop := fnExactIsOptionRow.holds Try.pinned (OpenSpec.ofChange fnExactIsOptionSpec)

/-- ITS FALSE NEIGHBOUR: 'it returns false'. Refute it at one input. -/
def fnExactIsOptionWrong : ChangeSpec := { name := "fnExactIsOption", fn := fun _ => fun
  | [d] => { results := [.lit (.bool false)], args := [d] }
  | _ => none }
def FnExactIsOptionWrongFalsely : Prop := fnExactIsOptionRow.holds Try.pinned (OpenSpec.ofChange fnExactIsOptionWrong)

/-- 'laws.FnExactAllowedFor': WHATEVER THE INPUT: true; the input reads as it did. -/
def fnExactAllowedForSpec : ChangeSpec := { name := "fnExactAllowedFor", fn := fun _ => fun
  | [d] => { results := [.lit (.bool true)], args := [d] }
  | _ => none }
def fnExactAllowedForRow : OpenClaim := { program := "ytalgglmkdhajfaa", sum := "b40d68e0b76214c6c26115d03539aa6786136fbb22025fe376099d7fdd30dde2", func := "loop.example/g01010/laws.FnExactAllowedFor", spec := "fnExactAllowedFor", apart := false }
def FnExactAllowedForSaid : Prop := fnExactAllowedForRow.holds Try.pinned (OpenSpec.ofChange fnExactAllowedForSpec)

/-- ITS FALSE NEIGHBOUR: 'it returns false'. Refute it at one input. -/
def fnExactAllowedForWrong : ChangeSpec := { name := "fnExactAllowedFor", fn := fun _ => fun
  | [d] => { results := [.lit (.bool false)], args := [d] }
  | _ => none }
def FnExactAllowedForWrongFalsely : Prop := fnExactAllowedForRow.holds Try.pinned (OpenSpec.ofChange fnExactAllowedForWrong)

/-- 'laws.FnExactExcessOf': WHATEVER THE INPUT: true; the input reads as it did. -/
def fnExactExcessOfSpec : ChangeSpec := { name := "fnExactExcessOf", fn := fun _ => fun
  | [d] => { results := [.lit (.bool true)], args := [d] }
  | _ => none }
def fnExactExcessOfRow : OpenClaim := { program := "ytalgglmkdhajfaa", sum := "b40d68e0b76214c6c26115d03539aa6786136fbb22025fe376099d7fdd30dde2", func := "loop.example/g01010/laws.FnExactExcessOf", spec := "fnExactExcessOf", apart := false }
def FnExactExcessOfSaid : Prop := fnExactExcessOfRow.holds Try.pinned (OpenSpec.ofChange fnExactExcessOfSpec)

/-- ITS FALSE NEIGHBOUR: 'it returns false'. Refute it at one input. -/
def fnExactExcessOfWrong : ChangeSpec := { name := "fnExactExcessOf", fn := fun _ => fun
  | [d] => { results := [.lit (.bool false)], args := [d] }
  | _ => none }
def FnExactExcessOfWrongFalsely : Prop := fnExactExcessOfRow.holds Try.pinned (OpenSpec.ofChange fnExactExcessOfWrong)

/-- 'laws.FnExactIsScale': WHATEVER THE INPUT: true; the input reads as it did. -/
def fnExactIsScaleSpec : ChangeSpec := { name := "fnExactIsScale", fn := fun _ => fun
  | [d] => { results := [.lit (.bool true)], args := [d] }
  | _ => none }
def fnExactIsScaleRow : OpenClaim := { program := "ytalgglmkdhajfaa", sum := "b40d68e0b76214c6c26115d03539aa6786136fbb22025fe376099d7fdd30dde2", func := "loop.example/g01010/laws.FnExactIsScale", spec := "fnExactIsScale", apart := false }
def FnExactIsScaleSaid : Prop := fnExactIsScaleRow.holds Try.pinned (OpenSpec.ofChange fnExactIsScaleSpec)

/-- ITS FALSE NEIGHBOUR: 'it returns false'. Refute it at one input. -/
def fnExactIsScaleWrong : ChangeSpec := { name := "fnExactIsScale", fn := fun _ => fun
  | [d] => { results := [.lit (.bool false)], args := [d] }
  | _ => none }
def FnExactIsScaleWrongFalsely : Prop := fnExactIsScaleRow.holds Try.pinned (OpenSpec.ofChange fnExactIsScaleWrong)

/-- 'laws.FnExactMergeBands': WHATEVER THE INPUT: true; the input reads as it did. -/
def fnExactMergeBandsSpec : ChangeSpec := { name := "fnExactMergeBands", fn := fun _ => fun
  | [d] => { results := [.lit (.bool true)], args := [d] }
  | _ => none }
def fnExactMergeBandsRow : OpenClaim := { program := "ytalgglmkdhajfaa", sum := "b40d68e0b76214c6c26115d03539aa6786136fbb22025fe376099d7fdd30dde2", func := "loop.example/g01010/laws.FnExactMergeBands", spec := "fnExactMergeBands", apart := false }
def FnExactMergeBandsSaid : Prop := fnExactMergeBandsRow.holds Try.pinned (OpenSpec.ofChange fnExactMergeBandsSpec)

/-- ITS FALSE NEIGHBOUR: 'it returns false'. Refute it at one input. -/
def fnExactMergeBandsWrong : ChangeSpec := { name := "fnExactMergeBands", fn := fun _ => fun
  | [d] => { results := [.lit (.bool false)], args := [d] }
  | _ => none }
def FnExactMergeBandsWrongFalsely : Prop := fnExactMergeBandsRow.holds Try.pinned (OpenSpec.ofChange fnExactMergeBandsWrong)

/-- 'laws.FnExactRaiseScale': WHATEVER THE INPUT: true; the input reads as it did. -/
def fnExactRaiseScaleSpec : ChangeSpec := { name := "fnExactRaiseScale", fn := fun _ => fun
  | [d1, d2] => { results := [.lit (.bool true)], args := [d1, d2] }
  | _ => none }
def fnExactRaiseScaleRow : OpenClaim := { program := "ytalgglmkdhajfaa", sum := "b40d68e0b76214c6c26115d03539aa6786136fbb22025fe376099d7fdd30dde2", func := "loop.example/g01010/laws.FnExactRaiseScale", spec := "fnExactRaiseScale", apart := false }
def FnExactRaiseScaleSaid : Prop := fnExactRaiseScaleRow.holds Try.pinned (OpenSpec.ofChange fnExactRaiseScaleSpec)

/-- ITS FALSE NEIGHBOUR: 'it returns false'. Refute it at one input. -/
def fnExactRaiseScaleWrong : ChangeSpec := { name := "fnExactRaiseScale", fn := fun _ => fun
  | [d1, d2] => { results := [.lit (.bool false)], args := [d1, d2] }
  | _ => none }
def FnExactRaiseScaleWrongFalsely : Prop := fnExactRaiseScaleRow.holds Try.pinned (OpenSpec.ofChange fnExactRaiseScaleWrong)

/- THE SECOND FORM. 'bulk': how many values and letters a reading holds, each counted each time it is reached (what is shared counts as often as it is met; a slice's spare places count too). A statement '..UptoSaid' is the law's where the arguments, and the package variables that the reading takes, are together of bulk at most 1048576: NARROWER than '..Said'. Prove '..Said' where nothing that the law and all that it calls make is longer than what came in: it says more and counts as full. Else prove '..UptoSaid'. A law counts once. -/
mutual
def uptoBulk {H : Type} : DataW H → Nat
  | .lit (.string bytes) => bytes.length + 1
  | .lit _ => 1
  | .nil => 1
  | .ptr d => uptoBulk d + 1
  | .slice elems spare => uptoBulkAll elems + uptoBulkAll spare + 1
  | .agg parts => uptoBulkAll parts + 1
  | .iface _ d => uptoBulk d + 1
  | .map entries => uptoBulkEntries entries + 1
  | .held _ => 1
def uptoBulkAll {H : Type} : List (DataW H) → Nat
  | [] => 0
  | d :: r => uptoBulk d + uptoBulkAll r
def uptoBulkEntries {H : Type} : List (Lit × DataW H) → Nat
  | [] => 0
  | x :: r => uptoBulkEntry x + uptoBulkEntries r
def uptoBulkEntry {H : Type} : Lit × DataW H → Nat
  | (.string bytes, d) => bytes.length + uptoBulk d + 1
  | (_, d) => uptoBulk d + 1
 end
def uptoSmall : (H : Type) → List (DataW H) → Bool := fun _ ds => decide (uptoBulkAll ds ≤ 1048576)
def OpenSpec.upto (s : _root_.Go.ChangeSpec) : _root_.Go.OpenSpec := { _root_.Go.OpenSpec.ofChange s with cond := some uptoSmall }

/-- 'laws.FnExactIsOption', WHERE WHAT IT READS IS OF BULK AT MOST 1048576: true; the input reads as it did. -/
def fnExactIsOptionUptoRow : OpenClaim := { program := "ytalgglmkdhajfaa", sum := "b40d68e0b76214c6c26115d03539aa6786136fbb22025fe376099d7fdd30dde2", func := "loop.example/g01010/laws.FnExactIsOption", spec := "fnExactIsOption", apart := false, narrowed := true }
def FnExactIsOptionUptoSaid : Prop := fnExactIsOptionUptoRow.holds Try.pinned (OpenSpec.upto fnExactIsOptionSpec)

/-- 'laws.FnExactAllowedFor', WHERE WHAT IT READS IS OF BULK AT MOST 1048576: true; the input reads as it did. -/
def fnExactAllowedForUptoRow : OpenClaim := { program := "ytalgglmkdhajfaa", sum := "b40d68e0b76214c6c26115d03539aa6786136fbb22025fe376099d7fdd30dde2", func := "loop.example/g01010/laws.FnExactAllowedFor", spec := "fnExactAllowedFor", apart := false, narrowed := true }
def FnExactAllowedForUptoSaid : Prop := fnExactAllowedForUptoRow.holds Try.pinned (OpenSpec.upto fnExactAllowedForSpec)

/-- 'laws.FnExactExcessOf', WHERE WHAT IT READS IS OF BULK AT MOST 1048576: true; the input reads as it did. -/
def fnExactExcessOfUptoRow : OpenClaim := { program := "ytalgglmkdhajfaa", sum := "b40d68e0b76214c6c26115d03539aa6786136fbb22025fe376099d7fdd30dde2", func := "loop.example/g01010/laws.FnExactExcessOf", spec := "fnExactExcessOf", apart := false, narrowed := true }
def FnExactExcessOfUptoSaid : Prop := fnExactExcessOfUptoRow.holds Try.pinned (OpenSpec.upto fnExactExcessOfSpec)

/-- 'laws.FnExactIsScale', WHERE WHAT IT READS IS OF BULK AT MOST 1048576: true; the input reads as it did. -/
def fnExactIsScaleUptoRow : OpenClaim := { program := "ytalgglmkdhajfaa", sum := "b40d68e0b76214c6c26115d03539aa6786136fbb22025fe376099d7fdd30dde2", func := "loop.example/g01010/laws.FnExactIsScale", spec := "fnExactIsScale", apart := false, narrowed := true }
def FnExactIsScaleUptoSaid : Prop := fnExactIsScaleUptoRow.holds Try.pinned (OpenSpec.upto fnExactIsScaleSpec)

/-- 'laws.FnExactMergeBands', WHERE WHAT IT READS IS OF BULK AT MOST 1048576: true; the input reads as it did. -/
def fnExactMergeBandsUptoRow : OpenClaim := { program := "ytalgglmkdhajfaa", sum := "b40d68e0b76214c6c26115d03539aa6786136fbb22025fe376099d7fdd30dde2", func := "loop.example/g01010/laws.FnExactMergeBands", spec := "fnExactMergeBands", apart := false, narrowed := true }
def FnExactMergeBandsUptoSaid : Prop := fnExactMergeBandsUptoRow.holds Try.pinned (OpenSpec.upto fnExactMergeBandsSpec)

/-- 'laws.FnExactRaiseScale', WHERE WHAT IT READS IS OF BULK AT MOST 1048576: true; the input reads as it did. -/
def fnExactRaiseScaleUptoRow : OpenClaim := { program := "ytalgglmkdhajfaa", sum := "b40d68e0b76214c6c26115d03539aa6786136fbb22025fe376099d7fdd30dde2", func := "loop.example/g01010/laws.FnExactRaiseScale", spec := "fnExactRaiseScale", apart := false, narrowed := true }
def FnExactRaiseScaleUptoSaid : Prop := fnExactRaiseScaleUptoRow.holds Try.pinned (OpenSpec.upto fnExactRaiseScaleSpec)

end Rows
end Go.Proofs.Ytalgglmkdhajfaa
