/- The two programs agree on which warnings are valid: at every warning. -/
import Derived.Test.YtfijknfdimcjhaaQ2
import Derived.Test.YtfijknfdimcjhaaArgs
namespace Go.Proofs.Ytfijknfdimcjhaa.Pure
open Go.RowKit Go.Proofs.YtfijknfdimcjhaaW.PrintWords Go.Proofs.Ytfijknfdimcjhaa.Tells Go.Proofs.Ytfijknfdimcjhaa.Q
theorem FnExactIsValidWarning : ∀ (x0 : S23), G23 x0 → laws_FnExactIsValidWarning.f x0.f0 x0.f1 x0.f2 x0.f3 x0.f4 x0.f5 = some true := by
  intro x _
  unfold laws_FnExactIsValidWarning.f laws_toWarning.f spec_IsValidWarning.f spec_l14Good.f impl_IsValidWarning.f spec_l1In.f impl_within.f
  simp only [Option.bind_some]
  by_cases h0 : x.f0 ≥ 1 <;> by_cases h1 : x.f0 ≤ 999 <;> simp [h0, h1]
  by_cases h0 : x.f1 ≥ 1 <;> by_cases h1 : x.f1 ≤ 5 <;> simp [h0, h1]
  by_cases h0 : x.f2 ≥ 1 <;> by_cases h1 : x.f2 ≤ 3 <;> simp [h0, h1]
  by_cases h0 : x.f3 ≥ 1 <;> by_cases h1 : x.f3 ≤ 9 <;> simp [h0, h1]
  by_cases h0 : x.f4 ≥ 0 <;> by_cases h1 : x.f5 ≥ 1 <;> by_cases h2 : x.f5 ≤ 240 <;> by_cases h3 : x.f4 < x.f5 <;> simp [h0, h1, h2, h3, wrap64] <;> omega
end Go.Proofs.Ytfijknfdimcjhaa.Pure
