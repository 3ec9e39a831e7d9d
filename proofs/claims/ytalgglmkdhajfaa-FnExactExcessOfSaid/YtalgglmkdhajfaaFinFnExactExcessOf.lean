/- FnExactExcessOf: for every option the program's ExcessOf answers what the reference's answers. -/
import Derived.Test.YtalgglmkdhajfaaRowFnExactExcessOf
namespace Go.Proofs.Ytalgglmkdhajfaa.FinFnExactExcessOf
open Go.RowKit Go.Proofs.YtalgglmkdhajfaaW.PrintWords Go.Proofs.Ytalgglmkdhajfaa.F
theorem in_same (a b c : Int) : spec_l01In.f a b c = impl_in.f a b c := rfl
theorem isOption_same (a b : Int) : spec_IsOption.f a b = impl_IsOption.f a b := rfl
theorem isOption_some (a b : Int) : ∃ r, impl_IsOption.f a b = some r := by
  have h : ∀ x y z, ∃ r, impl_in.f x y z = some r := fun x y z => by unfold impl_in.f; split <;> exact ⟨_, rfl⟩
  obtain ⟨r1, h1⟩ := h a 0 1000000000
  obtain ⟨r2, h2⟩ := h b 0 1000000000
  unfold impl_IsOption.f impl_IsAmount.f
  rw [h1, h2]
  cases r1 <;> simp
theorem pure : RFnExactExcessOf.PureFnExactExcessOf := by
  intro x _
  obtain ⟨r, hr⟩ := isOption_some x.f0 x.f1
  cases r <;> simp [laws_FnExactExcessOf.f, laws_toOption.f, spec_ExcessOf.f, impl_ExcessOf.f, isOption_same, hr, impl_Option_allowed.f]
end Go.Proofs.Ytalgglmkdhajfaa.FinFnExactExcessOf
namespace Go.Proofs.Ytalgglmkdhajfaa
theorem fnExactExcessOf_holds : Rows.FnExactExcessOfSaid := RFnExactExcessOf.fnExactExcessOf.proved FinFnExactExcessOf.pure
end Go.Proofs.Ytalgglmkdhajfaa
