/- The two programs write a warning in the same words: for every warning. -/
import Derived.Test.YtnfcflekbnfmhaaDoorQf21
import Derived.Test.YtnfcflekbnfmhaaDoorLaText
import Derived.Test.YtnfcflekbnfmhaaDoorArgs
set_option linter.unusedVariables false
set_option linter.unusedSimpArgs false
namespace Go.Proofs.YtnfcflekbnfmhaaDoor.Q
open Go.RowKit Go.Proofs.YtnfcflekbnfmhaaDoorW.PrintWords Go.Proofs.YtnfcflekbnfmhaaDoor.Gen
def wtR (a b c d e f : Int) : ByteArray × Bool := if okB a b c d e f = true then (warnR a b c d e f, true) else (⟨#[]⟩, false)
theorem ev_specWT (a b c d e f : Int) : Ev (fun k => spec_WarningText.f k a b c d e f) (wtR a b c d e f) := by
  unfold spec_WarningText.f wtR
  refine Ev.bind (f := fun k t => _) (Ev.eq_now fun k => good_f a b c d e f) ?_
  by_cases o : okB a b c d e f = true
  · rw [if_pos o]
    refine Ev.congr (fun k => if_pos o) ?_
    exact Ev.bind (f := fun k t => _) (ev_specText a b c d e f o) (Ev.now _)
  · rw [if_neg o]
    exact Ev.congr (fun k => if_neg o) (Ev.now _)
theorem implWT_f (a b c d e f : Int) : impl_WarningText.f a b c d e f = some (wtR a b c d e f) := by
  unfold impl_WarningText.f wtR
  rw [valid_f, Option.bind_some]
  by_cases o : okB a b c d e f = true
  · rw [if_pos o, if_pos o, implText_f a b c d e f o, Option.bind_some]
  · rw [if_neg o, if_neg o]
end Go.Proofs.YtnfcflekbnfmhaaDoor.Q
namespace Go.Proofs.YtnfcflekbnfmhaaDoor.Pure
open Go.RowKit Go.Proofs.YtnfcflekbnfmhaaDoorW.PrintWords Go.Proofs.YtnfcflekbnfmhaaDoor.Tells Go.Proofs.YtnfcflekbnfmhaaDoor.Q Go.Proofs.YtnfcflekbnfmhaaDoor.Gen
theorem FnExactWarningText : ∀ (x0 : S36), G36 x0 → ∃ k, laws_FnExactWarningText.f k x0.f0 x0.f1 x0.f2 x0.f3 x0.f4 x0.f5 = some true := by
  intro x _
  refine Ev.rounds ?_
  unfold laws_FnExactWarningText.f
  refine Ev.bind (f := fun k t => _) (Ev.eq_now fun k => (show laws_toWarning.f x.f0 x.f1 x.f2 x.f3 x.f4 x.f5 = some (x.f0, x.f1, x.f2, x.f3, x.f4, x.f5) from rfl)) ?_
  refine Ev.bind (f := fun k t => _) (ev_specWT x.f0 x.f1 x.f2 x.f3 x.f4 x.f5) ?_
  refine Ev.bind (f := fun k t => _) (Ev.eq_now fun k => (show laws_toWarning.f x.f0 x.f1 x.f2 x.f3 x.f4 x.f5 = some (x.f0, x.f1, x.f2, x.f3, x.f4, x.f5) from rfl)) ?_
  refine Ev.bind (f := fun k t => _) (Ev.eq_now fun k => implWT_f x.f0 x.f1 x.f2 x.f3 x.f4 x.f5) ?_
  exact Ev.congr (fun k => if_pos rfl) (Ev.congr (fun k => if_neg (by simp)) (Ev.now _))
end Go.Proofs.YtnfcflekbnfmhaaDoor.Pure
