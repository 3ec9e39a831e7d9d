/- The row of FnOnlyChain: for every input the law returns true, if its plain form does (PureFnOnlyChain); what the arguments are read as, and the frame. -/
import Derived.Test.YtmfbkbbgokjhnaaRows
import Derived.Test.YtmfbkbbgokjhnaaFx25
import Derived.Test.YtmfbkbbgokjhnaaOpen
import Derived.WalkKit
import Derived.ProofKit
import Derived.OpenShut
import Derived.ShutString
import Derived.ChangeOld
import Derived.Below
import Derived.SizedLaws
import Derived.Lib.SmallJoins
namespace Go.Proofs.Ytmfbkbbgokjhnaa
open Go.ChangeShapes Go.WideShapes Go.ChangeAt Go.RowKit Go.Joins Go.Proofs.Ytmfbkbbgokjhnaa.F Go.Proofs.Ytmfbkbbgokjhnaa.Op Go.Proofs.YtmfbkbbgokjhnaaW.PrintWords
open Go.ChangeMaps (open_string shut_string)
set_option linter.unusedVariables false
set_option linter.unusedSimpArgs false
namespace RFnOnlyChain
theorem own : ownKnob Try.prog.godebug = none := by kernel_rfl
theorem laidOut : laidOutB Try.prog = true := by kernel_rfl
def wf94 (x : S94) : Prop := (fun s => s.size ≤ maxLen) x.f0 ∧ (fun a => (Lit.int .i64 a).wf = true) x.f1 ∧ (fun a => (Lit.int .i64 a).wf = true) x.f2 ∧ (fun a => (Lit.int .i64 a).wf = true) x.f3 ∧ (fun a => (Lit.int .i64 a).wf = true) x.f4 ∧ (fun a => (Lit.int .i64 a).wf = true) x.f5 ∧ (fun s => s.size ≤ maxLen) x.f6
theorem open94 : Opens Try.prog 94 k94 wf94 :=
  opens_struct (fun x : S94 => (x.f0, (x.f1, (x.f2, (x.f3, (x.f4, (x.f5, x.f6))))))) (fun a => ⟨a.1, a.2.1, a.2.2.1, a.2.2.2.1, a.2.2.2.2.1, a.2.2.2.2.2.1, a.2.2.2.2.2.2⟩) (fun _ => rfl) Try.underlying94 (by kernel_rfl)
    (opensAt_cons (j := 0) (off := 0) rfl rfl (by kernel_rfl) (opens_string Try.underlying9) (opensAt_cons (j := 1) (off := 1) rfl rfl (by kernel_rfl) (opens_int Try.underlying2) (opensAt_cons (j := 2) (off := 2) rfl rfl (by kernel_rfl) (opens_int Try.underlying2) (opensAt_cons (j := 3) (off := 3) rfl rfl (by kernel_rfl) (opens_int Try.underlying2) (opensAt_cons (j := 4) (off := 4) rfl rfl (by kernel_rfl) (opens_int Try.underlying2) (opensAt_cons (j := 5) (off := 5) rfl rfl (by kernel_rfl) (opens_int Try.underlying2) (opensAt_last (j := 6) (off := 6) rfl rfl (by kernel_rfl) (opens_string Try.underlying9))))))))
def wf43 (x : S43) : Prop := (fun a => (Lit.int .i64 a).wf = true) x.f0 ∧ (fun a => (Lit.int .i64 a).wf = true) x.f1 ∧ (fun s => s.size ≤ maxLen) x.f2 ∧ (fun a => (Lit.int .i64 a).wf = true) x.f3 ∧ (fun _ => True) x.f4 ∧ (fun _ => True) x.f5 ∧ (fun _ => True) x.f6
theorem open43 : Opens Try.prog 43 k43 wf43 :=
  opens_struct (fun x : S43 => (x.f0, (x.f1, (x.f2, (x.f3, (x.f4, (x.f5, x.f6))))))) (fun a => ⟨a.1, a.2.1, a.2.2.1, a.2.2.2.1, a.2.2.2.2.1, a.2.2.2.2.2.1, a.2.2.2.2.2.2⟩) (fun _ => rfl) Try.underlying43 (by kernel_rfl)
    (opensAt_cons (j := 0) (off := 0) rfl rfl (by kernel_rfl) (opens_int Try.underlying2) (opensAt_cons (j := 1) (off := 1) rfl rfl (by kernel_rfl) (opens_int Try.underlying2) (opensAt_cons (j := 2) (off := 2) rfl rfl (by kernel_rfl) (opens_string Try.underlying9) (opensAt_cons (j := 3) (off := 3) rfl rfl (by kernel_rfl) (opens_int Try.underlying2) (opensAt_cons (j := 4) (off := 4) rfl rfl (by kernel_rfl) (opens_bool Try.underlying4) (opensAt_cons (j := 5) (off := 5) rfl rfl (by kernel_rfl) (opens_bool Try.underlying4) (opensAt_last (j := 6) (off := 6) rfl rfl (by kernel_rfl) (opens_bool Try.underlying4))))))))
def wf45 (x : S45) : Prop := (fun a => (Lit.int .i64 a).wf = true) x.f0 ∧ (fun l => l.length ≤ maxLen ∧ ∀ x ∈ l, (fun s => s.size ≤ maxLen) x) x.f1
theorem open45 : Opens Try.prog 45 k45 wf45 :=
  opens_struct (fun x : S45 => (x.f0, x.f1)) (fun a => ⟨a.1, a.2⟩) (fun _ => rfl) Try.underlying45 (by kernel_rfl)
    (opensAt_cons (j := 0) (off := 0) rfl rfl (by kernel_rfl) (opens_int Try.underlying2) (opensAt_last (j := 1) (off := 1) rfl rfl (by kernel_rfl) (opens_slice (e := 9) Try.underlying33 (by kernel_rfl) (opens_string Try.underlying9))))
/-- The plain statement of FnOnlyChain. -/
def PureFnOnlyChain : Prop := ∀ (l0 : List (S94)) (l1 : List (S43)) (l2 : List (S45)), (l0.length ≤ maxLen ∧ (∀ x ∈ l0, wf94 x)) → (l1.length ≤ maxLen ∧ (∀ x ∈ l1, wf43 x)) → (l2.length ≤ maxLen ∧ (∀ x ∈ l2, wf45 x)) → ∃ k, laws_FnOnlyChain.f k l0 l1 l2 = some true
namespace fnOnlyChain
set_option maxRecDepth 100000 in
theorem lifted (P : PureFnOnlyChain) (os : Os) (started : os.Started) (H : Type) (enc : TypeId × Value → H) :
    ReturnsInHanded {} Try.checked os 6 .any (Rows.fnOnlyChainSpec.pre6 enc Try.prog Try.f6 Rows.fnOnlyChainRow.domain false) (Rows.fnOnlyChainSpec.post enc Try.prog Try.f6 false true false false) := by
  refine returnsInHanded_of_change_sized (C := Try.checked) own started (by kernel_rfl) Try.func6
    (ChangeSpec.witness6 (enc := enc) (C := Try.checked) false ⟨#[], #[.slice none 0 0, .slice none 0 0, .slice none 0 0], []⟩ 8 (by kernel_rfl) (by kernel_rfl) (by kernel_rfl) (by kernel_rfl)) ?_
  intro W base args ds gs before hval0 hW hcnd hsz0 _
  have hval : ∀ (j : Nat) t v, Try.f6.params[j]? = some t → args[j]? = some v → Value.okWide Try.prog W .any base t v := hval0
  have hW' := hW
  obtain ⟨p, q, hA0, hV, rfl, hfz, hnd⟩ := hW
  have hA : DataW.TrodAll enc Try.prog W 0 (fun _ => true) true Try.f6.params.toList args.toList ds p := hA0
  rw [Try.params6] at hA hval
  obtain ⟨v0, vs0, d0, ds0, p0, q0, hargs, rfl, rfl, h0, r0⟩ := trodAll_cons hA
  obtain ⟨v1, vs1, d1, ds1, p1, q1, rfl, rfl, rfl, h1, r1⟩ := trodAll_cons r0
  obtain ⟨v2, vs2, d2, ds2, p2, q2, rfl, rfl, rfl, h2, r2⟩ := trodAll_cons r1
  obtain ⟨rfl, rfl, rfl⟩ := trodAll_nil r2
  obtain rfl : args = #[v0, v1, v2] := by cases args; simp_all
  obtain ⟨rfl, rfl⟩ := trodVars_none hV
  have k0 := h0
  have lt0 : ∀ x ∈ p0, x.block < W.heap.size := by obtain ⟨m, hm⟩ := k0; exact DataW.trod_lt m _ _ _ hm
  obtain ⟨fuel0, hf0⟩ := h0
  obtain ⟨A0, n0, c0, rfl⟩ := okWide_slice Try.underlying41 (hval 0 41 v0 rfl rfl)
  obtain ⟨l0, hK0, w0⟩ := (opens_slice (e := 94) Try.underlying41 (by kernel_rfl) open94) hf0
  obtain ⟨A0', c0', he0, hc0, hr0⟩ := hK0
  simp [Value.cells] at he0
  obtain ⟨rfl, rfl, rfl⟩ := he0
  have k1 := h1
  have lt1 : ∀ x ∈ p1, x.block < W.heap.size := by obtain ⟨m, hm⟩ := k1; exact DataW.trod_lt m _ _ _ hm
  obtain ⟨fuel1, hf1⟩ := h1
  obtain ⟨A1, n1, c1, rfl⟩ := okWide_slice Try.underlying55 (hval 1 55 v1 rfl rfl)
  obtain ⟨l1, hK1, w1⟩ := (opens_slice (e := 43) Try.underlying55 (by kernel_rfl) open43) hf1
  obtain ⟨A1', c1', he1, hc1, hr1⟩ := hK1
  simp [Value.cells] at he1
  obtain ⟨rfl, rfl, rfl⟩ := he1
  have k2 := h2
  have lt2 : ∀ x ∈ p2, x.block < W.heap.size := by obtain ⟨m, hm⟩ := k2; exact DataW.trod_lt m _ _ _ hm
  obtain ⟨fuel2, hf2⟩ := h2
  obtain ⟨A2, n2, c2, rfl⟩ := okWide_slice Try.underlying57 (hval 2 57 v2 rfl rfl)
  obtain ⟨l2, hK2, w2⟩ := (opens_slice (e := 45) Try.underlying57 (by kernel_rfl) open45) hf2
  obtain ⟨A2', c2', he2, hc2, hr2⟩ := hK2
  simp [Value.cells] at he2
  obtain ⟨rfl, rfl, rfl⟩ := he2
  obtain ⟨k, hP⟩ := P l0 l1 l2 w0 w1 w2
  clear hA0 hval0 hsz0
  refine (laws_FnOnlyChain.calls k _ _ l0 _ _ l1 _ _ l2 true ⟨rfl⟩ W hr0 hc0 hr1 hc1 hr2 hc2 hP).mono fun e W' hcl => ?_
  obtain ⟨he, bel⟩ : e = .returned (.bool true) ∧ Below W.heap.size W W' := ⟨hcl.1, hcl.2⟩
  subst he
  exact ⟨_, rfl, _, _, _, [], _, [], hW', trodAll_mk1 (shut_bool Try.underlying4 _), (trodAll_cons_mk (Below.trod laidOut (by kernel_rfl) (of_decide_eq_true (by kernel_rfl)) k0 bel lt0) (trodAll_cons_mk (Below.trod laidOut (by kernel_rfl) (of_decide_eq_true (by kernel_rfl)) k1 bel lt1) (trodAll_cons_mk (Below.trod laidOut (by kernel_rfl) (of_decide_eq_true (by kernel_rfl)) k2 bel lt2) trodAll_mk0))), rfl, bel.frame _, fun h => by cases h⟩
theorem over (P : PureFnOnlyChain) : Rows.fnOnlyChainRow.holds Try.pinned (OpenSpec.ofChange Rows.fnOnlyChainSpec) :=
  OpenClaim.holds_of_wide 6 Try.f6 rfl rfl rfl rfl rfl rfl rfl ⟨rfl, rfl, rfl, rfl, rfl⟩ rfl rfl rfl rfl rfl (by kernel_rfl) Try.func6 (by kernel_rfl)
    (of_decide_eq_true (by kernel_rfl)) (by unfold Func.isWrapper; first | (rw [if_pos (by decide +kernel)]; kernel_rfl) | (rw [if_neg (by decide +kernel)]; exact ⟨rfl, rfl⟩))
    (fun os started H enc _ => lifted P os started H enc)
theorem proved (P : PureFnOnlyChain) : Rows.FnOnlyChainSaid := over P
end fnOnlyChain
end RFnOnlyChain
end Go.Proofs.Ytmfbkbbgokjhnaa
