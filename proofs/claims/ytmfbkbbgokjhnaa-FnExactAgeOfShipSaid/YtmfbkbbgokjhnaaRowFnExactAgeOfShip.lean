/- The row of FnExactAgeOfShip: for every input the law returns true, if its plain form does (PureFnExactAgeOfShip); what the arguments are read as, and the frame. -/
import Derived.Test.YtmfbkbbgokjhnaaRows
import Derived.Test.YtmfbkbbgokjhnaaFx10
import Derived.Test.YtmfbkbbgokjhnaaOpen
import Derived.WalkKit
import Derived.ProofKit
import Derived.OpenShut
import Derived.ShutString
import Derived.ChangeOld
import Derived.Below
import Derived.SizedLaws
import Derived.Lib.SmallJoins
namespace Go.Proofs.Ytmfbkbbgokjhnaa
open Go.ChangeShapes Go.WideShapes Go.ChangeAt Go.RowKit Go.Joins Go.Proofs.Ytmfbkbbgokjhnaa.F Go.Proofs.Ytmfbkbbgokjhnaa.Op Go.Proofs.YtmfbkbbgokjhnaaW.PrintWords
open Go.ChangeMaps (open_string shut_string)
set_option linter.unusedVariables false
set_option linter.unusedSimpArgs false
namespace RFnExactAgeOfShip
theorem own : ownKnob Try.prog.godebug = none := by kernel_rfl
theorem laidOut : laidOutB Try.prog = true := by kernel_rfl
def wf81 (x : S81) : Prop := (fun s => s.size ≤ maxLen) x.f0 ∧ (fun a => (Lit.int .i64 a).wf = true) x.f1 ∧ (fun s => s.size ≤ maxLen) x.f2 ∧ (fun a => (Lit.int .i64 a).wf = true) x.f3 ∧ (fun a => (Lit.int .i64 a).wf = true) x.f4
theorem open81 : Opens Try.prog 81 k81 wf81 :=
  opens_struct (fun x : S81 => (x.f0, (x.f1, (x.f2, (x.f3, x.f4))))) (fun a => ⟨a.1, a.2.1, a.2.2.1, a.2.2.2.1, a.2.2.2.2⟩) (fun _ => rfl) Try.underlying81 (by kernel_rfl)
    (opensAt_cons (j := 0) (off := 0) rfl rfl (by kernel_rfl) (opens_string Try.underlying9) (opensAt_cons (j := 1) (off := 1) rfl rfl (by kernel_rfl) (opens_int Try.underlying2) (opensAt_cons (j := 2) (off := 2) rfl rfl (by kernel_rfl) (opens_string Try.underlying9) (opensAt_cons (j := 3) (off := 3) rfl rfl (by kernel_rfl) (opens_int Try.underlying2) (opensAt_last (j := 4) (off := 4) rfl rfl (by kernel_rfl) (opens_int Try.underlying2))))))
/-- The plain statement of FnExactAgeOfShip. -/
def PureFnExactAgeOfShip : Prop := ∀ (l0 : List (S81)), (l0.length ≤ maxLen ∧ (∀ x ∈ l0, wf81 x)) → ∃ k, laws_FnExactAgeOfShip.f k l0 = some true
namespace fnExactAgeOfShip
set_option maxRecDepth 100000 in
theorem lifted (P : PureFnExactAgeOfShip) (os : Os) (started : os.Started) (H : Type) (enc : TypeId × Value → H) :
    ReturnsInHanded {} Try.checked os 3 .any (Rows.fnExactAgeOfShipSpec.pre6 enc Try.prog Try.f3 Rows.fnExactAgeOfShipRow.domain false) (Rows.fnExactAgeOfShipSpec.post enc Try.prog Try.f3 false true false false) := by
  refine returnsInHanded_of_change_sized (C := Try.checked) own started (by kernel_rfl) Try.func3
    (ChangeSpec.witness6 (enc := enc) (C := Try.checked) false ⟨#[], #[.slice none 0 0], []⟩ 8 (by kernel_rfl) (by kernel_rfl) (by kernel_rfl) (by kernel_rfl)) ?_
  intro W base args ds gs before hval0 hW hcnd hsz0 _
  have hval : ∀ (j : Nat) t v, Try.f3.params[j]? = some t → args[j]? = some v → Value.okWide Try.prog W .any base t v := hval0
  have hW' := hW
  obtain ⟨p, q, hA0, hV, rfl, hfz, hnd⟩ := hW
  have hA : DataW.TrodAll enc Try.prog W 0 (fun _ => true) true Try.f3.params.toList args.toList ds p := hA0
  rw [Try.params3] at hA hval
  obtain ⟨v0, vs0, d0, ds0, p0, q0, hargs, rfl, rfl, h0, r0⟩ := trodAll_cons hA
  obtain ⟨rfl, rfl, rfl⟩ := trodAll_nil r0
  obtain rfl : args = #[v0] := by cases args; simp_all
  obtain ⟨rfl, rfl⟩ := trodVars_none hV
  have k0 := h0
  have lt0 : ∀ x ∈ p0, x.block < W.heap.size := by obtain ⟨m, hm⟩ := k0; exact DataW.trod_lt m _ _ _ hm
  obtain ⟨fuel0, hf0⟩ := h0
  obtain ⟨A0, n0, c0, rfl⟩ := okWide_slice Try.underlying22 (hval 0 22 v0 rfl rfl)
  obtain ⟨l0, hK0, w0⟩ := (opens_slice (e := 81) Try.underlying22 (by kernel_rfl) open81) hf0
  obtain ⟨A0', c0', he0, hc0, hr0⟩ := hK0
  simp [Value.cells] at he0
  obtain ⟨rfl, rfl, rfl⟩ := he0
  obtain ⟨k, hP⟩ := P l0 w0
  clear hA0 hval0 hsz0
  refine (laws_FnExactAgeOfShip.calls k _ _ l0 true W hr0 hc0 hP).mono fun e W' hcl => ?_
  obtain ⟨he, bel⟩ : e = .returned (.bool true) ∧ Below W.heap.size W W' := ⟨hcl.1, hcl.2⟩
  subst he
  exact ⟨_, rfl, _, _, _, [], _, [], hW', trodAll_mk1 (shut_bool Try.underlying4 _), (trodAll_cons_mk (Below.trod laidOut (by kernel_rfl) (of_decide_eq_true (by kernel_rfl)) k0 bel lt0) trodAll_mk0), rfl, bel.frame _, fun h => by cases h⟩
theorem over (P : PureFnExactAgeOfShip) : Rows.fnExactAgeOfShipRow.holds Try.pinned (OpenSpec.ofChange Rows.fnExactAgeOfShipSpec) :=
  OpenClaim.holds_of_wide 3 Try.f3 rfl rfl rfl rfl rfl rfl rfl ⟨rfl, rfl, rfl, rfl, rfl⟩ rfl rfl rfl rfl rfl (by kernel_rfl) Try.func3 (by kernel_rfl)
    (of_decide_eq_true (by kernel_rfl)) (by unfold Func.isWrapper; first | (rw [if_pos (by decide +kernel)]; kernel_rfl) | (rw [if_neg (by decide +kernel)]; exact ⟨rfl, rfl⟩))
    (fun os started H enc _ => lifted P os started H enc)
theorem proved (P : PureFnExactAgeOfShip) : Rows.FnExactAgeOfShipSaid := over P
end fnExactAgeOfShip
end RFnExactAgeOfShip
end Go.Proofs.Ytmfbkbbgokjhnaa
