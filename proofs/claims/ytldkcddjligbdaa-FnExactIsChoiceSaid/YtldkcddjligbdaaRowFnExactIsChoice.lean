/- The row of FnExactIsChoice: for every input the law returns true, if its plain form does (PureFnExactIsChoice); what the arguments are read as, and the frame. -/
import Derived.Test.YtldkcddjligbdaaRows
import Derived.Test.YtldkcddjligbdaaFx32
import Derived.Test.YtldkcddjligbdaaOpen
import Derived.WalkKit
import Derived.ProofKit
import Derived.OpenShut
import Derived.ShutString
import Derived.ChangeOld
import Derived.Below
import Derived.SizedLaws
import Derived.Lib.SmallJoins
namespace Go.Proofs.Ytldkcddjligbdaa
open Go.ChangeShapes Go.WideShapes Go.ChangeAt Go.RowKit Go.Joins Go.Proofs.Ytldkcddjligbdaa.F Go.Proofs.Ytldkcddjligbdaa.Op Go.Proofs.YtldkcddjligbdaaW.PrintWords
open Go.ChangeMaps (open_string shut_string)
set_option linter.unusedVariables false
set_option linter.unusedSimpArgs false
namespace RFnExactIsChoice
theorem own : ownKnob Try.prog.godebug = none := by kernel_rfl
theorem laidOut : laidOutB Try.prog = true := by kernel_rfl
def wf106 (x : S106) : Prop := (fun a => (Lit.int .i64 a).wf = true) x.f0 ∧ (fun a => (Lit.int .i64 a).wf = true) x.f1
theorem open106 : Opens Try.prog 106 k106 wf106 :=
  opens_struct (fun x : S106 => (x.f0, x.f1)) (fun a => ⟨a.1, a.2⟩) (fun _ => rfl) Try.underlying106 (by kernel_rfl)
    (opensAt_cons (j := 0) (off := 0) rfl rfl (by kernel_rfl) (opens_int Try.underlying2) (opensAt_last (j := 1) (off := 1) rfl rfl (by kernel_rfl) (opens_int Try.underlying2)))
/-- The plain statement of FnExactIsChoice. -/
def PureFnExactIsChoice : Prop := ∀ (l0 : List (S106)) (l1 : List Int) (a2 : Int), (l0.length ≤ maxLen ∧ (∀ x ∈ l0, wf106 x)) → (l1.length ≤ maxLen ∧ (∀ x ∈ l1, (fun a => (Lit.int .i64 a).wf = true) x)) → ((fun a => (Lit.int .i64 a).wf = true) a2) → ∃ k, laws_FnExactIsChoice.f k l0 l1 a2 = some true
namespace fnExactIsChoice
set_option maxRecDepth 100000 in
theorem lifted (P : PureFnExactIsChoice) (os : Os) (started : os.Started) (H : Type) (enc : TypeId × Value → H) :
    ReturnsInHanded {} Try.checked os 10 .any (Rows.fnExactIsChoiceSpec.pre6 enc Try.prog Try.f10 Rows.fnExactIsChoiceRow.domain false) (Rows.fnExactIsChoiceSpec.post enc Try.prog Try.f10 false true false false) := by
  refine returnsInHanded_of_change_sized (C := Try.checked) own started (by kernel_rfl) Try.func10
    (ChangeSpec.witness6 (enc := enc) (C := Try.checked) false ⟨#[], #[.slice none 0 0, .slice none 0 0, .int .i64 0], []⟩ 8 (by kernel_rfl) (by kernel_rfl) (by kernel_rfl) (by kernel_rfl)) ?_
  intro W base args ds gs before hval0 hW hcnd hsz0 _
  have hval : ∀ (j : Nat) t v, Try.f10.params[j]? = some t → args[j]? = some v → Value.okWide Try.prog W .any base t v := hval0
  have hW' := hW
  obtain ⟨p, q, hA0, hV, rfl, hfz, hnd⟩ := hW
  have hA : DataW.TrodAll enc Try.prog W 0 (fun _ => true) true Try.f10.params.toList args.toList ds p := hA0
  rw [Try.params10] at hA hval
  obtain ⟨v0, vs0, d0, ds0, p0, q0, hargs, rfl, rfl, h0, r0⟩ := trodAll_cons hA
  obtain ⟨v1, vs1, d1, ds1, p1, q1, rfl, rfl, rfl, h1, r1⟩ := trodAll_cons r0
  obtain ⟨v2, vs2, d2, ds2, p2, q2, rfl, rfl, rfl, h2, r2⟩ := trodAll_cons r1
  obtain ⟨rfl, rfl, rfl⟩ := trodAll_nil r2
  obtain rfl : args = #[v0, v1, v2] := by cases args; simp_all
  obtain ⟨rfl, rfl⟩ := trodVars_none hV
  have k0 := h0
  have lt0 : ∀ x ∈ p0, x.block < W.heap.size := by obtain ⟨m, hm⟩ := k0; exact DataW.trod_lt m _ _ _ hm
  obtain ⟨fuel0, hf0⟩ := h0
  obtain ⟨A0, n0, c0, rfl⟩ := okWide_slice Try.underlying22 (hval 0 22 v0 rfl rfl)
  obtain ⟨l0, hK0, w0⟩ := (opens_slice (e := 106) Try.underlying22 (by kernel_rfl) open106) hf0
  obtain ⟨A0', c0', he0, hc0, hr0⟩ := hK0
  simp [Value.cells] at he0
  obtain ⟨rfl, rfl, rfl⟩ := he0
  have k1 := h1
  have lt1 : ∀ x ∈ p1, x.block < W.heap.size := by obtain ⟨m, hm⟩ := k1; exact DataW.trod_lt m _ _ _ hm
  obtain ⟨fuel1, hf1⟩ := h1
  obtain ⟨A1, n1, c1, rfl⟩ := okWide_slice Try.underlying46 (hval 1 46 v1 rfl rfl)
  obtain ⟨l1, hK1, w1⟩ := (opens_slice (e := 2) Try.underlying46 (by kernel_rfl) (opens_int Try.underlying2)) hf1
  obtain ⟨A1', c1', he1, hc1, hr1⟩ := hK1
  simp [Value.cells] at he1
  obtain ⟨rfl, rfl, rfl⟩ := he1
  obtain ⟨a2, rfl, rfl, rfl, w2⟩ := open_int Try.underlying2 (hval 2 2 v2 rfl rfl) h2
  obtain ⟨k, hP⟩ := P l0 l1 a2 w0 w1 w2
  clear hA0 hval0 hsz0
  refine (laws_FnExactIsChoice.calls k _ _ l0 _ _ l1 a2 true W hr0 hc0 hr1 hc1 hP).mono fun e W' hcl => ?_
  obtain ⟨he, bel⟩ : e = .returned (.bool true) ∧ Below W.heap.size W W' := ⟨hcl.1, hcl.2⟩
  subst he
  exact ⟨_, rfl, _, _, _, [], _, [], hW', trodAll_mk1 (shut_bool Try.underlying4 _), (trodAll_cons_mk (Below.trod laidOut (by kernel_rfl) (of_decide_eq_true (by kernel_rfl)) k0 bel lt0) (trodAll_cons_mk (Below.trod laidOut (by kernel_rfl) (of_decide_eq_true (by kernel_rfl)) k1 bel lt1) (trodAll_cons_mk (shut_int Try.underlying2 w2) trodAll_mk0))), rfl, bel.frame _, fun h => by cases h⟩
theorem over (P : PureFnExactIsChoice) : Rows.fnExactIsChoiceRow.holds Try.pinned (OpenSpec.ofChange Rows.fnExactIsChoiceSpec) :=
  OpenClaim.holds_of_wide 10 Try.f10 rfl rfl rfl rfl rfl rfl rfl ⟨rfl, rfl, rfl, rfl, rfl⟩ rfl rfl rfl rfl rfl (by kernel_rfl) Try.func10 (by kernel_rfl)
    (of_decide_eq_true (by kernel_rfl)) (by unfold Func.isWrapper; first | (rw [if_pos (by decide +kernel)]; kernel_rfl) | (rw [if_neg (by decide +kernel)]; exact ⟨rfl, rfl⟩))
    (fun os started H enc _ => lifted P os started H enc)
theorem proved (P : PureFnExactIsChoice) : Rows.FnExactIsChoiceSaid := over P
end fnExactIsChoice
end RFnExactIsChoice
end Go.Proofs.Ytldkcddjligbdaa
