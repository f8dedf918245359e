/- The two programs write the same headline: for every list of warnings. -/
import Derived.Test.YtnibkkfjgmfpnaaDoorQf3
import Derived.Test.YtnibkkfjgmfpnaaDoorLaHead
set_option linter.unusedVariables false
set_option linter.unusedSimpArgs false
namespace Go.Proofs.YtnibkkfjgmfpnaaDoor.Pure
open Go.RowKit Go.Proofs.YtnibkkfjgmfpnaaDoorW.PrintWords Go.Proofs.YtnibkkfjgmfpnaaDoor.Tells Go.Proofs.YtnibkkfjgmfpnaaDoor.Q Go.Proofs.YtnibkkfjgmfpnaaDoor.Gen
theorem FnExactHeadlineOf : ∀ (l0 : List S46), l0.length ≤ maxLen → (∀ x ∈ l0, G46 x) → ∃ k, laws_FnExactHeadlineOf.f k l0 = some true := by
  intro l hl _
  refine Ev.rounds ?_
  unfold laws_FnExactHeadlineOf.f
  refine Ev.bind (f := fun k t => if t < 0 then some true else _) (Ev.eq_now fun k => szW_f l 1048576 (by omega) hl) ?_
  by_cases h : (l.length : Int) ≤ 1048576
  · rw [if_pos h]
    refine Ev.congr (fun k => if_neg (by omega)) ?_
    have hc := ev_toW l (by omega)
    have hw : (wconv l).length ≤ 4611686018427387904 := by rw [wconv_length]; omega
    refine Ev.bind (f := fun k t => _) hc ?_
    refine Ev.bind (f := fun k t => _) (ev_specHead _ hw) ?_
    refine Ev.bind (f := fun k t => _) hc ?_
    refine Ev.bind (f := fun k t => _) (ev_implHead _ hw) ?_
    refine Ev.congr (fun k => if_pos rfl) (Ev.unr ?_)
    simp only [laws_FnExactHeadlineOf.j0, bne_self_eq_false]
    refine Ev.congr (fun k => if_neg (by simp)) ?_
    refine Ev.bind (f := fun k t => _) hc ?_
    exact Ev.bind (f := fun k t => _) (ev_eqW _ hw) (Ev.now _)
  · rw [if_neg h]
    exact Ev.now _
end Go.Proofs.YtnibkkfjgmfpnaaDoor.Pure
