/- The row of FnExactTotalDeduction: for every input the law returns true, if its plain form does (PureFnExactTotalDeduction); what the arguments are read as, and the frame. -/
import Derived.Test.YtldkcddjligbdaaRows
import Derived.Test.YtldkcddjligbdaaFx20
import Derived.Test.YtldkcddjligbdaaOpen
import Derived.WalkKit
import Derived.ProofKit
import Derived.OpenShut
import Derived.ShutString
import Derived.ChangeOld
import Derived.Below
import Derived.SizedLaws
import Derived.Lib.SmallJoins
namespace Go.Proofs.Ytldkcddjligbdaa
open Go.ChangeShapes Go.WideShapes Go.ChangeAt Go.RowKit Go.Joins Go.Proofs.Ytldkcddjligbdaa.F Go.Proofs.Ytldkcddjligbdaa.Op Go.Proofs.YtldkcddjligbdaaW.PrintWords
open Go.ChangeMaps (open_string shut_string)
set_option linter.unusedVariables false
set_option linter.unusedSimpArgs false
namespace RFnExactTotalDeduction
theorem own : ownKnob Try.prog.godebug = none := by kernel_rfl
theorem laidOut : laidOutB Try.prog = true := by kernel_rfl
def wf115 (x : S115) : Prop := (fun a => (Lit.int .i64 a).wf = true) x.f0 ∧ (fun a => (Lit.int .i64 a).wf = true) x.f1
theorem open115 : Opens Try.prog 115 k115 wf115 :=
  opens_struct (fun x : S115 => (x.f0, x.f1)) (fun a => ⟨a.1, a.2⟩) (fun _ => rfl) Try.underlying115 (by kernel_rfl)
    (opensAt_cons (j := 0) (off := 0) rfl rfl (by kernel_rfl) (opens_int Try.underlying2) (opensAt_last (j := 1) (off := 1) rfl rfl (by kernel_rfl) (opens_int Try.underlying2)))
def wf60 (x : S60) : Prop := (fun a => (Lit.int .i64 a).wf = true) x.f0 ∧ (fun a => (Lit.int .i64 a).wf = true) x.f1 ∧ (fun s => s.size ≤ maxLen) x.f2 ∧ (fun a => (Lit.int .i64 a).wf = true) x.f3 ∧ (fun _ => True) x.f4 ∧ (fun _ => True) x.f5 ∧ (fun _ => True) x.f6
theorem open60 : Opens Try.prog 60 k60 wf60 :=
  opens_struct (fun x : S60 => (x.f0, (x.f1, (x.f2, (x.f3, (x.f4, (x.f5, x.f6))))))) (fun a => ⟨a.1, a.2.1, a.2.2.1, a.2.2.2.1, a.2.2.2.2.1, a.2.2.2.2.2.1, a.2.2.2.2.2.2⟩) (fun _ => rfl) Try.underlying60 (by kernel_rfl)
    (opensAt_cons (j := 0) (off := 0) rfl rfl (by kernel_rfl) (opens_int Try.underlying2) (opensAt_cons (j := 1) (off := 1) rfl rfl (by kernel_rfl) (opens_int Try.underlying2) (opensAt_cons (j := 2) (off := 2) rfl rfl (by kernel_rfl) (opens_string Try.underlying9) (opensAt_cons (j := 3) (off := 3) rfl rfl (by kernel_rfl) (opens_int Try.underlying2) (opensAt_cons (j := 4) (off := 4) rfl rfl (by kernel_rfl) (opens_bool Try.underlying4) (opensAt_cons (j := 5) (off := 5) rfl rfl (by kernel_rfl) (opens_bool Try.underlying4) (opensAt_last (j := 6) (off := 6) rfl rfl (by kernel_rfl) (opens_bool Try.underlying4))))))))
/-- The plain statement of FnExactTotalDeduction. -/
def PureFnExactTotalDeduction : Prop := ∀ (l0 : List (S115)) (a1 : Int) (l2 : List (S60)), (l0.length ≤ maxLen ∧ (∀ x ∈ l0, wf115 x)) → ((fun a => (Lit.int .i64 a).wf = true) a1) → (l2.length ≤ maxLen ∧ (∀ x ∈ l2, wf60 x)) → ∃ k, laws_FnExactTotalDeduction.f k l0 a1 l2 = some true
namespace fnExactTotalDeduction
set_option maxRecDepth 100000 in
theorem lifted (P : PureFnExactTotalDeduction) (os : Os) (started : os.Started) (H : Type) (enc : TypeId × Value → H) :
    ReturnsInHanded {} Try.checked os 12 .any (Rows.fnExactTotalDeductionSpec.pre6 enc Try.prog Try.f12 Rows.fnExactTotalDeductionRow.domain false) (Rows.fnExactTotalDeductionSpec.post enc Try.prog Try.f12 false true false false) := by
  refine returnsInHanded_of_change_sized (C := Try.checked) own started (by kernel_rfl) Try.func12
    (ChangeSpec.witness6 (enc := enc) (C := Try.checked) false ⟨#[], #[.slice none 0 0, .int .i64 0, .slice none 0 0], []⟩ 8 (by kernel_rfl) (by kernel_rfl) (by kernel_rfl) (by kernel_rfl)) ?_
  intro W base args ds gs before hval0 hW hcnd hsz0 _
  have hval : ∀ (j : Nat) t v, Try.f12.params[j]? = some t → args[j]? = some v → Value.okWide Try.prog W .any base t v := hval0
  have hW' := hW
  obtain ⟨p, q, hA0, hV, rfl, hfz, hnd⟩ := hW
  have hA : DataW.TrodAll enc Try.prog W 0 (fun _ => true) true Try.f12.params.toList args.toList ds p := hA0
  rw [Try.params12] at hA hval
  obtain ⟨v0, vs0, d0, ds0, p0, q0, hargs, rfl, rfl, h0, r0⟩ := trodAll_cons hA
  obtain ⟨v1, vs1, d1, ds1, p1, q1, rfl, rfl, rfl, h1, r1⟩ := trodAll_cons r0
  obtain ⟨v2, vs2, d2, ds2, p2, q2, rfl, rfl, rfl, h2, r2⟩ := trodAll_cons r1
  obtain ⟨rfl, rfl, rfl⟩ := trodAll_nil r2
  obtain rfl : args = #[v0, v1, v2] := by cases args; simp_all
  obtain ⟨rfl, rfl⟩ := trodVars_none hV
  have k0 := h0
  have lt0 : ∀ x ∈ p0, x.block < W.heap.size := by obtain ⟨m, hm⟩ := k0; exact DataW.trod_lt m _ _ _ hm
  obtain ⟨fuel0, hf0⟩ := h0
  obtain ⟨A0, n0, c0, rfl⟩ := okWide_slice Try.underlying30 (hval 0 30 v0 rfl rfl)
  obtain ⟨l0, hK0, w0⟩ := (opens_slice (e := 115) Try.underlying30 (by kernel_rfl) open115) hf0
  obtain ⟨A0', c0', he0, hc0, hr0⟩ := hK0
  simp [Value.cells] at he0
  obtain ⟨rfl, rfl, rfl⟩ := he0
  obtain ⟨a1, rfl, rfl, rfl, w1⟩ := open_int Try.underlying2 (hval 1 2 v1 rfl rfl) h1
  have k2 := h2
  have lt2 : ∀ x ∈ p2, x.block < W.heap.size := by obtain ⟨m, hm⟩ := k2; exact DataW.trod_lt m _ _ _ hm
  obtain ⟨fuel2, hf2⟩ := h2
  obtain ⟨A2, n2, c2, rfl⟩ := okWide_slice Try.underlying66 (hval 2 66 v2 rfl rfl)
  obtain ⟨l2, hK2, w2⟩ := (opens_slice (e := 60) Try.underlying66 (by kernel_rfl) open60) hf2
  obtain ⟨A2', c2', he2, hc2, hr2⟩ := hK2
  simp [Value.cells] at he2
  obtain ⟨rfl, rfl, rfl⟩ := he2
  obtain ⟨k, hP⟩ := P l0 a1 l2 w0 w1 w2
  clear hA0 hval0 hsz0
  refine (laws_FnExactTotalDeduction.calls k _ _ l0 a1 _ _ l2 true W hr0 hc0 hr2 hc2 hP).mono fun e W' hcl => ?_
  obtain ⟨he, bel⟩ : e = .returned (.bool true) ∧ Below W.heap.size W W' := ⟨hcl.1, hcl.2⟩
  subst he
  exact ⟨_, rfl, _, _, _, [], _, [], hW', trodAll_mk1 (shut_bool Try.underlying4 _), (trodAll_cons_mk (Below.trod laidOut (by kernel_rfl) (of_decide_eq_true (by kernel_rfl)) k0 bel lt0) (trodAll_cons_mk (shut_int Try.underlying2 w1) (trodAll_cons_mk (Below.trod laidOut (by kernel_rfl) (of_decide_eq_true (by kernel_rfl)) k2 bel lt2) trodAll_mk0))), rfl, bel.frame _, fun h => by cases h⟩
theorem over (P : PureFnExactTotalDeduction) : Rows.fnExactTotalDeductionRow.holds Try.pinned (OpenSpec.ofChange Rows.fnExactTotalDeductionSpec) :=
  OpenClaim.holds_of_wide 12 Try.f12 rfl rfl rfl rfl rfl rfl rfl ⟨rfl, rfl, rfl, rfl, rfl⟩ rfl rfl rfl rfl rfl (by kernel_rfl) Try.func12 (by kernel_rfl)
    (of_decide_eq_true (by kernel_rfl)) (by unfold Func.isWrapper; first | (rw [if_pos (by decide +kernel)]; kernel_rfl) | (rw [if_neg (by decide +kernel)]; exact ⟨rfl, rfl⟩))
    (fun os started H enc _ => lifted P os started H enc)
theorem proved (P : PureFnExactTotalDeduction) : Rows.FnExactTotalDeductionSaid := over P
end fnExactTotalDeduction
end RFnExactTotalDeduction
end Go.Proofs.Ytldkcddjligbdaa
