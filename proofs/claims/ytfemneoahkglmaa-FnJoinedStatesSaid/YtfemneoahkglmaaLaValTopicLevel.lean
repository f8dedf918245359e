/- What TopicLevel answers, in both programs. -/
import Derived.Test.YtfemneoahkglmaaQf8
import Derived.Test.YtfemneoahkglmaaLaLevel
namespace Go.Proofs.Ytfemneoahkglmaa.Q
open Go.RowKit Go.Proofs.YtfemneoahkglmaaW.PrintWords Go.Proofs.Ytfemneoahkglmaa.Gen
set_option linter.unusedVariables false
set_option linter.unusedSimpArgs false
def topicLevelV (l : List S37) (t a h : Int) : Int × Bool := if consB l = true ∧ (1 ≤ t ∧ t ≤ 5) ∧ (1 ≤ a ∧ a ≤ 9) ∧ (0 ≤ h ∧ h ≤ 239) then (lvl l t a h, true) else (0, false)
theorem ev_implTopicLevel (l : List S37) (hl : l.length ≤ 4611686018427387904) (t a h : Int) : Ev (fun k => impl_TopicLevel.f k l t a h) (topicLevelV l t a h) := by
  unfold impl_TopicLevel.f topicLevelV impl_isTopicArea.f impl_isStateHour.f
  simp only [within_f, Option.bind_some, decide_eq_true_eq]
  refine Ev.bind (f := fun k t => _) (ev_IsConsistent l hl) ?_
  by_cases h1 : consB l = true
  · by_cases h2 : 1 ≤ t ∧ t ≤ 5
    · by_cases h3 : 1 ≤ a ∧ a ≤ 9
      · by_cases h4 : 0 ≤ h ∧ h ≤ 239
        · simp only [h1, h2, h3, h4, and_self, if_true, Option.bind_some, decide_true]
          exact Ev.bind (f := fun k t => _) (ev_topicLevel l hl _ _ _) (Ev.now _)
        · simp only [h1, h2, h3, h4, and_self, and_false, if_true, if_false, Option.bind_some, decide_true]
          exact Ev.now _
      · simp only [h1, h2, h3, and_self, and_false, false_and, if_true, if_false, Option.bind_some, decide_false, Bool.false_eq_true]
        exact Ev.now _
    · simp only [h1, h2, and_false, false_and, if_true, if_false, Option.bind_some, Bool.false_eq_true]
      exact Ev.now _
  · simp only [h1, false_and, if_false]
    exact Ev.now _
end Go.Proofs.Ytfemneoahkglmaa.Q
