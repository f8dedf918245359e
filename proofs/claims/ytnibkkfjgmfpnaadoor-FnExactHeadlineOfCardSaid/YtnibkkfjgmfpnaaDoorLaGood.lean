/- Which warnings are valid: both programs say the same. -/
import Derived.Test.YtnibkkfjgmfpnaaDoorQf6
import Derived.Test.YtnibkkfjgmfpnaaDoorQf53
import Derived.Test.YtnibkkfjgmfpnaaDoorEv
namespace Go.Proofs.YtnibkkfjgmfpnaaDoor.Q
open Go.RowKit Go.Proofs.YtnibkkfjgmfpnaaDoorW.PrintWords Go.Proofs.YtnibkkfjgmfpnaaDoor.Gen
set_option linter.unusedVariables false
set_option linter.unusedSimpArgs false
def okB (a b c d e f : Int) : Bool := decide (1 ≤ a ∧ a ≤ 999 ∧ 1 ≤ b ∧ b ≤ 5 ∧ 1 ≤ c ∧ c ≤ 3 ∧ 1 ≤ d ∧ d ≤ 9 ∧ 0 ≤ e ∧ e < f ∧ f ≤ 240)
theorem l1In_fG (a b c : Int) : spec_l1In.f a b c = some (decide (b ≤ a ∧ a ≤ c)) := by
  unfold spec_l1In.f
  by_cases h1 : a ≥ b <;> by_cases h2 : a ≤ c <;> simp [h1, h2] <;> omega
theorem good_f (x0 x1 x2 x3 x4 x5 : Int) : spec_l14Good.f x0 x1 x2 x3 x4 x5 = some (okB x0 x1 x2 x3 x4 x5) := by
  unfold spec_l14Good.f okB
  simp only [l1In_fG, Option.bind_some, decide_eq_true_eq]
  repeat' split
  all_goals (congr 1; first | (apply decide_eq_decide.2; unfold wrap64; omega) | (symm; apply decide_eq_false; omega))
theorem valid_f (x0 x1 x2 x3 x4 x5 : Int) : impl_IsValidWarning.f x0 x1 x2 x3 x4 x5 = some (okB x0 x1 x2 x3 x4 x5) := by
  unfold impl_IsValidWarning.f okB
  simp only [within_f, Option.bind_some, decide_eq_true_eq]
  repeat' split
  all_goals (congr 1; first | (apply decide_eq_decide.2; omega) | (symm; apply decide_eq_false; omega))
end Go.Proofs.YtnibkkfjgmfpnaaDoor.Q
