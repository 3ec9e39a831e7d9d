/- The row of FnExactIsCase: for every input the law returns true, if its plain form does (PureFnExactIsCase); what the arguments are read as, and the frame. -/
import Derived.Test.YtmfbkbbgokjhnaaGreatRows
import Derived.Test.YtmfbkbbgokjhnaaGreatFx42
import Derived.Test.YtmfbkbbgokjhnaaGreatOpen
import Derived.WalkKit
import Derived.ProofKit
import Derived.OpenShut
import Derived.ShutString
import Derived.ChangeOld
import Derived.Below
import Derived.SizedLaws
import Derived.Lib.SmallJoins
namespace Go.Proofs.YtmfbkbbgokjhnaaGreat
open Go.ChangeShapes Go.WideShapes Go.ChangeAt Go.RowKit Go.Joins Go.Proofs.YtmfbkbbgokjhnaaGreat.F Go.Proofs.YtmfbkbbgokjhnaaGreat.Op Go.Proofs.YtmfbkbbgokjhnaaGreatW.PrintWords
open Go.ChangeMaps (open_string shut_string)
set_option linter.unusedVariables false
set_option linter.unusedSimpArgs false
namespace RFnExactIsCase
theorem own : ownKnob Tryz.prog.godebug = none := by kernel_rfl
theorem laidOut : laidOutB Tryz.prog = true := by kernel_rfl
def wf96 (x : S96) : Prop := (fun s => s.size ≤ maxLen) x.f0 ∧ (fun a => (Lit.int .i64 a).wf = true) x.f1 ∧ (fun s => s.size ≤ maxLen) x.f2 ∧ (fun a => (Lit.int .i64 a).wf = true) x.f3 ∧ (fun a => (Lit.int .i64 a).wf = true) x.f4
theorem open96 : Opens Tryz.prog 96 k96 wf96 :=
  opens_struct (fun x : S96 => (x.f0, (x.f1, (x.f2, (x.f3, x.f4))))) (fun a => ⟨a.1, a.2.1, a.2.2.1, a.2.2.2.1, a.2.2.2.2⟩) (fun _ => rfl) Tryz.underlying96 (by kernel_rfl)
    (opensAt_cons (j := 0) (off := 0) rfl rfl (by kernel_rfl) (opens_string Tryz.underlying9) (opensAt_cons (j := 1) (off := 1) rfl rfl (by kernel_rfl) (opens_int Tryz.underlying2) (opensAt_cons (j := 2) (off := 2) rfl rfl (by kernel_rfl) (opens_string Tryz.underlying9) (opensAt_cons (j := 3) (off := 3) rfl rfl (by kernel_rfl) (opens_int Tryz.underlying2) (opensAt_last (j := 4) (off := 4) rfl rfl (by kernel_rfl) (opens_int Tryz.underlying2))))))
def wf98 (x : S98) : Prop := (fun a => (Lit.int .i64 a).wf = true) x.f0 ∧ (fun a => (Lit.int .i64 a).wf = true) x.f1 ∧ (fun s => s.size ≤ maxLen) x.f2 ∧ (fun a => (Lit.int .i64 a).wf = true) x.f3 ∧ (fun _ => True) x.f4 ∧ (fun _ => True) x.f5 ∧ (fun _ => True) x.f6
theorem open98 : Opens Tryz.prog 98 k98 wf98 :=
  opens_struct (fun x : S98 => (x.f0, (x.f1, (x.f2, (x.f3, (x.f4, (x.f5, x.f6))))))) (fun a => ⟨a.1, a.2.1, a.2.2.1, a.2.2.2.1, a.2.2.2.2.1, a.2.2.2.2.2.1, a.2.2.2.2.2.2⟩) (fun _ => rfl) Tryz.underlying98 (by kernel_rfl)
    (opensAt_cons (j := 0) (off := 0) rfl rfl (by kernel_rfl) (opens_int Tryz.underlying2) (opensAt_cons (j := 1) (off := 1) rfl rfl (by kernel_rfl) (opens_int Tryz.underlying2) (opensAt_cons (j := 2) (off := 2) rfl rfl (by kernel_rfl) (opens_string Tryz.underlying9) (opensAt_cons (j := 3) (off := 3) rfl rfl (by kernel_rfl) (opens_int Tryz.underlying2) (opensAt_cons (j := 4) (off := 4) rfl rfl (by kernel_rfl) (opens_bool Tryz.underlying4) (opensAt_cons (j := 5) (off := 5) rfl rfl (by kernel_rfl) (opens_bool Tryz.underlying4) (opensAt_last (j := 6) (off := 6) rfl rfl (by kernel_rfl) (opens_bool Tryz.underlying4))))))))
def wf101 (x : S101) : Prop := (fun s => s.size ≤ maxLen) x.f0 ∧ (fun a => (Lit.int .i64 a).wf = true) x.f1 ∧ (fun a => (Lit.int .i64 a).wf = true) x.f2 ∧ (fun a => (Lit.int .i64 a).wf = true) x.f3 ∧ (fun a => (Lit.int .i64 a).wf = true) x.f4 ∧ (fun a => (Lit.int .i64 a).wf = true) x.f5 ∧ (fun s => s.size ≤ maxLen) x.f6
theorem open101 : Opens Tryz.prog 101 k101 wf101 :=
  opens_struct (fun x : S101 => (x.f0, (x.f1, (x.f2, (x.f3, (x.f4, (x.f5, x.f6))))))) (fun a => ⟨a.1, a.2.1, a.2.2.1, a.2.2.2.1, a.2.2.2.2.1, a.2.2.2.2.2.1, a.2.2.2.2.2.2⟩) (fun _ => rfl) Tryz.underlying101 (by kernel_rfl)
    (opensAt_cons (j := 0) (off := 0) rfl rfl (by kernel_rfl) (opens_string Tryz.underlying9) (opensAt_cons (j := 1) (off := 1) rfl rfl (by kernel_rfl) (opens_int Tryz.underlying2) (opensAt_cons (j := 2) (off := 2) rfl rfl (by kernel_rfl) (opens_int Tryz.underlying2) (opensAt_cons (j := 3) (off := 3) rfl rfl (by kernel_rfl) (opens_int Tryz.underlying2) (opensAt_cons (j := 4) (off := 4) rfl rfl (by kernel_rfl) (opens_int Tryz.underlying2) (opensAt_cons (j := 5) (off := 5) rfl rfl (by kernel_rfl) (opens_int Tryz.underlying2) (opensAt_last (j := 6) (off := 6) rfl rfl (by kernel_rfl) (opens_string Tryz.underlying9))))))))
def wf117 (x : S117) : Prop := (fun a => (Lit.int .i64 a).wf = true) x.f0 ∧ (fun a => (Lit.int .i64 a).wf = true) x.f1
theorem open117 : Opens Tryz.prog 117 k117 wf117 :=
  opens_struct (fun x : S117 => (x.f0, x.f1)) (fun a => ⟨a.1, a.2⟩) (fun _ => rfl) Tryz.underlying117 (by kernel_rfl)
    (opensAt_cons (j := 0) (off := 0) rfl rfl (by kernel_rfl) (opens_int Tryz.underlying2) (opensAt_last (j := 1) (off := 1) rfl rfl (by kernel_rfl) (opens_int Tryz.underlying2)))
def wf119 (x : S119) : Prop := (fun a => (Lit.int .i64 a).wf = true) x.f0 ∧ (fun a => (Lit.int .i64 a).wf = true) x.f1
theorem open119 : Opens Tryz.prog 119 k119 wf119 :=
  opens_struct (fun x : S119 => (x.f0, x.f1)) (fun a => ⟨a.1, a.2⟩) (fun _ => rfl) Tryz.underlying119 (by kernel_rfl)
    (opensAt_cons (j := 0) (off := 0) rfl rfl (by kernel_rfl) (opens_int Tryz.underlying2) (opensAt_last (j := 1) (off := 1) rfl rfl (by kernel_rfl) (opens_int Tryz.underlying2)))
structure S28 where
  f0 : List (S96)
  f1 : List (S98)
  f2 : List (S101)
  f3 : List (S117)
  f4 : List (S119)
  f5 : Int
  f6 : Int
def k28 : Kd S28 := Kd.iso (Kd.pair (Kd.slice 96 k96) (Kd.pair (Kd.slice 98 k98) (Kd.pair (Kd.slice 101 k101) (Kd.pair (Kd.slice 117 k117) (Kd.pair (Kd.slice 119 k119) (Kd.pair (Kd.int .i64) ((Kd.int .i64)))))))) (fun x : S28 => (x.f0, x.f1, x.f2, x.f3, x.f4, x.f5, x.f6))
theorem k28_open {w : World} {x : S28} {cs : List Value} (h : k28.K w x cs) : ∃ A0 c0 A1 c1 A2 c2 A3 c3 A4 c4, cs = [.slice A0 x.f0.length c0, .slice A1 x.f1.length c1, .slice A2 x.f2.length c2, .slice A3 x.f3.length c3, .slice A4 x.f4.length c4, .int .i64 x.f5, .int .i64 x.f6] ∧ x.f0.length ≤ c0 ∧ k96.C w A0 x.f0.length x.f0 ∧ x.f1.length ≤ c1 ∧ k98.C w A1 x.f1.length x.f1 ∧ x.f2.length ≤ c2 ∧ k101.C w A2 x.f2.length x.f2 ∧ x.f3.length ≤ c3 ∧ k117.C w A3 x.f3.length x.f3 ∧ x.f4.length ≤ c4 ∧ k119.C w A4 x.f4.length x.f4 := by
  obtain ⟨_, _, rfl, ⟨A0, c0, rfl, l0, g0⟩, ⟨_, _, rfl, ⟨A1, c1, rfl, l1, g1⟩, ⟨_, _, rfl, ⟨A2, c2, rfl, l2, g2⟩, ⟨_, _, rfl, ⟨A3, c3, rfl, l3, g3⟩, ⟨_, _, rfl, ⟨A4, c4, rfl, l4, g4⟩, ⟨_, _, rfl, rfl, rfl⟩⟩⟩⟩⟩⟩ := h
  exact ⟨A0, c0, A1, c1, A2, c2, A3, c3, A4, c4, rfl, l0, g0, l1, g1, l2, g2, l3, g3, l4, g4⟩
def wf28 (x : S28) : Prop := (fun l => l.length ≤ maxLen ∧ ∀ x ∈ l, wf96 x) x.f0 ∧ (fun l => l.length ≤ maxLen ∧ ∀ x ∈ l, wf98 x) x.f1 ∧ (fun l => l.length ≤ maxLen ∧ ∀ x ∈ l, wf101 x) x.f2 ∧ (fun l => l.length ≤ maxLen ∧ ∀ x ∈ l, wf117 x) x.f3 ∧ (fun l => l.length ≤ maxLen ∧ ∀ x ∈ l, wf119 x) x.f4 ∧ (fun a => (Lit.int .i64 a).wf = true) x.f5 ∧ (fun a => (Lit.int .i64 a).wf = true) x.f6
theorem open28 : Opens Tryz.prog 28 k28 wf28 :=
  opens_struct (fun x : S28 => (x.f0, (x.f1, (x.f2, (x.f3, (x.f4, (x.f5, x.f6))))))) (fun a => ⟨a.1, a.2.1, a.2.2.1, a.2.2.2.1, a.2.2.2.2.1, a.2.2.2.2.2.1, a.2.2.2.2.2.2⟩) (fun _ => rfl) Tryz.underlying28 (by kernel_rfl)
    (opensAt_cons (j := 0) (off := 0) rfl rfl (by kernel_rfl) (opens_slice (e := 96) Tryz.underlying22 (by kernel_rfl) open96) (opensAt_cons (j := 1) (off := 1) rfl rfl (by kernel_rfl) (opens_slice (e := 98) Tryz.underlying23 (by kernel_rfl) open98) (opensAt_cons (j := 2) (off := 2) rfl rfl (by kernel_rfl) (opens_slice (e := 101) Tryz.underlying24 (by kernel_rfl) open101) (opensAt_cons (j := 3) (off := 3) rfl rfl (by kernel_rfl) (opens_slice (e := 117) Tryz.underlying25 (by kernel_rfl) open117) (opensAt_cons (j := 4) (off := 4) rfl rfl (by kernel_rfl) (opens_slice (e := 119) Tryz.underlying26 (by kernel_rfl) open119) (opensAt_cons (j := 5) (off := 5) rfl rfl (by kernel_rfl) (opens_int Tryz.underlying2) (opensAt_last (j := 6) (off := 6) rfl rfl (by kernel_rfl) (opens_int Tryz.underlying2))))))))
/-- The plain statement of FnExactIsCase. -/
def PureFnExactIsCase : Prop := ∀ (x0 : S28), (wf28 x0) → ∃ k, laws_FnExactIsCase.f k x0.f0 x0.f1 x0.f2 x0.f3 x0.f4 x0.f5 x0.f6 = some true
namespace fnExactIsCase
set_option maxRecDepth 100000 in
theorem lifted (P : PureFnExactIsCase) (os : Os) (started : os.Started) (H : Type) (enc : TypeId × Value → H) :
    ReturnsInHanded {} Tryz.checked os 3 .any (Rows.fnExactIsCaseSpec.pre6 enc Tryz.prog Tryz.f3 Rows.fnExactIsCaseRow.domain false) (Rows.fnExactIsCaseSpec.post enc Tryz.prog Tryz.f3 false true false false) := by
  refine returnsInHanded_of_change_sized (C := Tryz.checked) own started (by kernel_rfl) Tryz.func3
    (ChangeSpec.witness6 (enc := enc) (C := Tryz.checked) false ⟨#[], #[.agg #[.slice none 0 0, .slice none 0 0, .slice none 0 0, .slice none 0 0, .slice none 0 0, .int .i64 0, .int .i64 0]], []⟩ 8 (by kernel_rfl) (by kernel_rfl) (by kernel_rfl) (by kernel_rfl)) ?_
  intro W base args ds gs before hval0 hW hcnd hsz0 _
  have hval : ∀ (j : Nat) t v, Tryz.f3.params[j]? = some t → args[j]? = some v → Value.okWide Tryz.prog W .any base t v := hval0
  have hW' := hW
  obtain ⟨p, q, hA0, hV, rfl, hfz, hnd⟩ := hW
  have hA : DataW.TrodAll enc Tryz.prog W 0 (fun _ => true) true Tryz.f3.params.toList args.toList ds p := hA0
  rw [Tryz.params3] at hA hval
  obtain ⟨v0, vs0, d0, ds0, p0, q0, hargs, rfl, rfl, h0, r0⟩ := trodAll_cons hA
  obtain ⟨rfl, rfl, rfl⟩ := trodAll_nil r0
  obtain rfl : args = #[v0] := by cases args; simp_all
  obtain ⟨rfl, rfl⟩ := trodVars_none hV
  have k0 := h0
  have lt0 : ∀ x ∈ p0, x.block < W.heap.size := by obtain ⟨m, hm⟩ := k0; exact DataW.trod_lt m _ _ _ hm
  obtain ⟨fuel0, hf0⟩ := h0
  obtain ⟨cs0, rfl, hsz0⟩ := okWide_struct Tryz.underlying28 (hval 0 28 v0 rfl rfl)
  obtain ⟨x0, hK0, w0⟩ := open28 hf0
  obtain ⟨A0_0, c0_0, A0_1, c0_1, A0_2, c0_2, A0_3, c0_3, A0_4, c0_4, he0, hc0_0, hr0_0, hc0_1, hr0_1, hc0_2, hr0_2, hc0_3, hr0_3, hc0_4, hr0_4⟩ := k28_open hK0
  simp only [Value.cells] at he0
  obtain rfl : cs0 = #[.slice A0_0 x0.f0.length c0_0, .slice A0_1 x0.f1.length c0_1, .slice A0_2 x0.f2.length c0_2, .slice A0_3 x0.f3.length c0_3, .slice A0_4 x0.f4.length c0_4, .int .i64 x0.f5, .int .i64 x0.f6] := by apply Array.ext'; simpa using he0
  obtain ⟨k, hP⟩ := P x0 w0
  clear hA0 hval0 hsz0
  refine (laws_FnExactIsCase.calls k _ _ x0.f0 _ _ x0.f1 _ _ x0.f2 _ _ x0.f3 _ _ x0.f4 x0.f5 x0.f6 true rfl W hr0_0 hc0_0 hr0_1 hc0_1 hr0_2 hc0_2 hr0_3 hc0_3 hr0_4 hc0_4 hP).mono fun e W' hcl => ?_
  obtain ⟨he, bel⟩ : e = .returned (.bool true) ∧ Below W.heap.size W W' := ⟨hcl.1, hcl.2⟩
  subst he
  exact ⟨_, rfl, _, _, _, [], _, [], hW', trodAll_mk1 (shut_bool Tryz.underlying4 _), (trodAll_cons_mk (Below.trod laidOut (by kernel_rfl) (of_decide_eq_true (by kernel_rfl)) k0 bel lt0) trodAll_mk0), rfl, bel.frame _, fun h => by cases h⟩
theorem over (P : PureFnExactIsCase) : Rows.fnExactIsCaseRow.holds Tryz.pinned (OpenSpec.ofChange Rows.fnExactIsCaseSpec) :=
  OpenClaim.holds_of_wide 3 Tryz.f3 rfl rfl rfl rfl rfl rfl rfl ⟨rfl, rfl, rfl, rfl, rfl⟩ rfl rfl rfl rfl rfl (by kernel_rfl) Tryz.func3 (by kernel_rfl)
    (of_decide_eq_true (by kernel_rfl)) (by unfold Func.isWrapper; first | (rw [if_pos (by decide +kernel)]; kernel_rfl) | (rw [if_neg (by decide +kernel)]; exact ⟨rfl, rfl⟩))
    (fun os started H enc _ => lifted P os started H enc)
theorem proved (P : PureFnExactIsCase) : Rows.FnExactIsCaseSaid := over P
end fnExactIsCase
end RFnExactIsCase
end Go.Proofs.YtmfbkbbgokjhnaaGreat
