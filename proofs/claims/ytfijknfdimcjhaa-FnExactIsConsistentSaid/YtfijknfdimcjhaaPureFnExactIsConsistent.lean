/- The two programs agree on which lists of warnings are consistent: for every list. -/
import Derived.Test.YtfijknfdimcjhaaQf4
import Derived.Test.YtfijknfdimcjhaaLaW
namespace Go.Proofs.Ytfijknfdimcjhaa.Pure
open Go.RowKit Go.Proofs.YtfijknfdimcjhaaW.PrintWords Go.Proofs.Ytfijknfdimcjhaa.Tells Go.Proofs.Ytfijknfdimcjhaa.Q Go.Proofs.Ytfijknfdimcjhaa.Gen
theorem FnExactIsConsistent : ∀ (l0 : List S23), l0.length ≤ maxLen → (∀ x ∈ l0, G23 x) → ∃ k, laws_FnExactIsConsistent.f k l0 = some true := by
  intro l hl _
  refine Ev.rounds ?_
  unfold laws_FnExactIsConsistent.f
  refine Ev.bind (f := fun k t => if t < 0 then some true else _) (Ev.eq_now fun k => szW_f l 1048576 (by omega) hl) ?_
  by_cases h : (l.length : Int) ≤ 1048576
  · rw [if_pos h]
    refine Ev.congr (fun k => if_neg (by omega)) ?_
    have hc := ev_toW l (by omega)
    have hw : (wconv l).length ≤ 4611686018427387904 := by rw [wconv_length]; omega
    refine Ev.bind (f := fun k t => _) hc ?_
    refine Ev.bind (f := fun k t => _) (ev_specCons _) ?_
    refine Ev.bind (f := fun k t => _) hc ?_
    refine Ev.bind (f := fun k t => _) (ev_IsConsistent _ hw) ?_
    refine Ev.congr (fun k => if_neg (by simp)) ?_
    refine Ev.bind (f := fun k t => _) hc ?_
    exact Ev.bind (f := fun k t => _) (ev_eqW _ hw) (Ev.now _)
  · rw [if_neg h]
    exact Ev.now _
end Go.Proofs.Ytfijknfdimcjhaa.Pure
