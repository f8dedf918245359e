/- The two programs tell the same level of an area at an hour: for every list, area and hour. -/
import Derived.Test.YtfijknfdimcjhaaQf9
import Derived.Test.YtfijknfdimcjhaaLaGreat
namespace Go.Proofs.Ytfijknfdimcjhaa.Q
open Go.RowKit Go.Proofs.YtfijknfdimcjhaaW.PrintWords Go.Proofs.Ytfijknfdimcjhaa.Gen
set_option linter.unusedVariables false
set_option linter.unusedSimpArgs false
def areaLevelV (l : List S25) (a h : Int) : Int × Bool := if consB l = true ∧ (1 ≤ a ∧ a ≤ 9) ∧ (0 ≤ h ∧ h ≤ 239) then (great l a h, true) else (0, false)
theorem ev_specAreaLevel (l : List S25) (hl : l.length ≤ 4611686018427387904) (a h : Int) : Ev (fun k => spec_AreaLevel.f k l a h) (areaLevelV l a h) := by
  unfold spec_AreaLevel.f areaLevelV spec_l15Area.f spec_l15Hour.f
  simp only [l1In_f, Option.bind_some, decide_eq_true_eq]
  refine Ev.bind (f := fun k t => _) (ev_l14List l) ?_
  by_cases h1 : consB l = true
  · by_cases h3 : 1 ≤ a ∧ a ≤ 9
    · by_cases h4 : 0 ≤ h ∧ h ≤ 239
      · simp only [h1, h3, h4, and_self, if_true]
        exact Ev.bind (f := fun k t => _) (ev_l15Greatest l hl _ _) (Ev.now _)
      · simp only [h1, h3, h4, and_self, and_false, if_true, if_false]
        exact Ev.now _
    · simp only [h1, h3, and_self, and_false, false_and, if_true, if_false]
      exact Ev.now _
  · simp only [h1, false_and, if_false]
    exact Ev.now _
theorem ev_implAreaLevel (l : List S25) (hl : l.length ≤ 4611686018427387904) (a h : Int) : Ev (fun k => impl_AreaLevel.f k l a h) (areaLevelV l a h) := by
  unfold impl_AreaLevel.f areaLevelV impl_isStateHour.f
  simp only [within_f, Option.bind_some, decide_eq_true_eq]
  refine Ev.bind (f := fun k t => _) (ev_IsConsistent l hl) ?_
  by_cases h1 : consB l = true
  · by_cases h3 : 1 ≤ a ∧ a ≤ 9
    · by_cases h4 : 0 ≤ h ∧ h ≤ 239
      · simp only [h1, h3, h4, and_self, if_true]
        exact Ev.bind (f := fun k t => _) (ev_areaLevel l hl _ _) (Ev.now _)
      · simp only [h1, h3, h4, and_self, and_false, if_true, if_false]
        exact Ev.now _
    · simp only [h1, h3, and_self, and_false, false_and, if_true, if_false]
      exact Ev.now _
  · simp only [h1, false_and, if_false]
    exact Ev.now _
end Go.Proofs.Ytfijknfdimcjhaa.Q
set_option linter.unusedVariables false
set_option linter.unusedSimpArgs false
namespace Go.Proofs.Ytfijknfdimcjhaa.Pure
open Go.RowKit Go.Proofs.YtfijknfdimcjhaaW.PrintWords Go.Proofs.Ytfijknfdimcjhaa.Tells Go.Proofs.Ytfijknfdimcjhaa.Q Go.Proofs.Ytfijknfdimcjhaa.Gen
theorem FnExactAreaLevel : ∀ (l0 : List S23) (a1 : Int) (a2 : Int), l0.length ≤ maxLen → (∀ x ∈ l0, G23 x) → I64 a1 → I64 a2 → ∃ k, laws_FnExactAreaLevel.f k l0 a1 a2 = some true := by
  intro l a1 a2 hl _ _ _
  refine Ev.rounds ?_
  unfold laws_FnExactAreaLevel.f
  refine Ev.bind (f := fun k t => if t < 0 then some true else _) (Ev.eq_now fun k => szW_f l 1048576 (by omega) hl) ?_
  by_cases h : (l.length : Int) ≤ 1048576
  · rw [if_pos h]
    refine Ev.congr (fun k => if_neg (by omega)) ?_
    have hc := ev_toW l (by omega)
    have hw : (wconv l).length ≤ 1048576 := by rw [wconv_length]; omega
    have hsp := ev_specAreaLevel (wconv l) (by omega) a1 a2
    have him := ev_implAreaLevel (wconv l) (by omega) a1 a2
    generalize areaLevelV (wconv l) a1 a2 = v at hsp him
    refine Ev.bind (f := fun k t => _) hc ?_
    refine Ev.bind (f := fun k t => _) hsp ?_
    refine Ev.bind (f := fun k t => _) hc ?_
    refine Ev.bind (f := fun k t => _) him ?_
    refine Ev.congr (fun k => if_pos rfl) (Ev.unr ?_)
    simp only [laws_FnExactAreaLevel.j0, bne_self_eq_false, Bool.false_eq_true, if_false]
    refine Ev.bind (f := fun k t => _) hc ?_
    exact Ev.bind (f := fun k t => _) (ev_eqW _ (by omega)) (Ev.now _)
  · rw [if_neg h]
    exact Ev.now _
end Go.Proofs.Ytfijknfdimcjhaa.Pure
