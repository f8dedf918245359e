/- The two programs join warnings alike: for every list. -/
import Derived.Test.YthmkgdlmegohoaaQf7
import Derived.Test.YthmkgdlmegohoaaLaJoin
import Derived.Test.YthmkgdlmegohoaaLaMarksW
namespace Go.Proofs.Ythmkgdlmegohoaa.Q
open Go.RowKit Go.Proofs.YthmkgdlmegohoaaW.PrintWords Go.Proofs.Ythmkgdlmegohoaa.Gen
set_option linter.unusedVariables false
set_option linter.unusedSimpArgs false

end Go.Proofs.Ythmkgdlmegohoaa.Q
set_option linter.unusedVariables false
set_option linter.unusedSimpArgs false
namespace Go.Proofs.Ythmkgdlmegohoaa.Pure
open Go.RowKit Go.Proofs.YthmkgdlmegohoaaW.PrintWords Go.Proofs.Ythmkgdlmegohoaa.Tells Go.Proofs.Ythmkgdlmegohoaa.Q Go.Proofs.Ythmkgdlmegohoaa.Gen
theorem FnExactJoinWarnings : ∀ (l0 : List S24), l0.length ≤ maxLen → (∀ x ∈ l0, G24 x) → ∃ k, laws_FnExactJoinWarnings.f k l0 = some true := by
  intro l hl _
  refine Ev.rounds ?_
  unfold laws_FnExactJoinWarnings.f
  refine Ev.bind (f := fun k t => if t < 0 then some true else _) (Ev.eq_now fun k => szW_f l 1048576 (by omega) hl) ?_
  by_cases h : (l.length : Int) ≤ 1048576
  · rw [if_pos h]
    refine Ev.congr (fun k => if_neg (by omega)) ?_
    have hc := ev_toW l (by omega)
    have hw : (wconv l).length ≤ 1048576 := by rw [wconv_length]; omega
    have hsp := ev_specJoin (wconv l) (by omega)
    have him := ev_implJoin (wconv l) (by omega)
    have hv := joinR_len (wconv l)
    generalize joinR (wconv l) = v at hsp him hv
    refine Ev.bind (f := fun k t => _) hc ?_
    refine Ev.bind (f := fun k t => _) hsp ?_
    refine Ev.bind (f := fun k t => _) hc ?_
    refine Ev.bind (f := fun k t => _) him ?_
    refine Ev.bind (f := fun k t => _) (ev_eqVW _ (by omega)) ?_
    refine Ev.congr (fun k => if_pos (by first | rfl | trivial)) (Ev.unr ?_)
    simp only [laws_FnExactJoinWarnings.j0, bne_self_eq_false, Bool.false_eq_true, if_false]
    refine Ev.bind (f := fun k t => _) hc ?_
    refine Ev.bind (f := fun k t => _) (ev_eqVW _ (by omega)) ?_
    refine Ev.congr (fun k => if_pos (by first | rfl | trivial)) ?_
    refine Ev.bind (f := fun k t => _) (ev_markVW (wconv l) (by omega)) ?_
    refine Ev.congr (fun k => if_neg (by omega)) ?_
    refine Ev.bind (f := fun k t => _) (ev_eqVW _ (by omega)) ?_
    refine Ev.congr (fun k => if_pos (by first | rfl | trivial)) (Ev.unr ?_)
    simp only [laws_FnExactJoinWarnings.j1, bne_self_eq_false, Bool.false_eq_true, if_false]
    refine Ev.bind (f := fun k t => _) (ev_markVW _ (by omega)) ?_
    refine Ev.bind (f := fun k t => _) (ev_heldVW _ (by omega)) ?_
    refine Ev.congr (fun k => if_neg (by omega)) ?_
    refine Ev.congr (fun k => if_pos (by first | rfl | trivial)) ?_
    refine Ev.bind (f := fun k t => _) hc ?_
    refine Ev.bind (f := fun k t => _) him ?_
    refine Ev.bind (f := fun k t => _) (ev_eqVW _ (by omega)) ?_
    refine Ev.congr (fun k => if_pos (by first | rfl | trivial)) (Ev.unr ?_)
    simp only [laws_FnExactJoinWarnings.j2, bne_self_eq_false, Bool.false_eq_true, if_false]
    refine Ev.bind (f := fun k t => _) (ev_heldVW _ (by omega)) ?_
    refine Ev.congr (fun k => if_neg (by omega)) ?_
    refine Ev.congr (fun k => if_pos rfl) (Ev.now _)
  · rw [if_neg h]
    exact Ev.now _
end Go.Proofs.Ythmkgdlmegohoaa.Pure
