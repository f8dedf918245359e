/- Joining warnings changes no level: for every list of warnings, topic, area and hour. -/
import Derived.Test.YtfemneoahkglmaaQf3
import Derived.Test.YtfemneoahkglmaaLaJoined
import Derived.Test.YtfemneoahkglmaaLaValTopicLevel
set_option linter.unusedVariables false
set_option linter.unusedSimpArgs false
namespace Go.Proofs.Ytfemneoahkglmaa.Pure
open Go.RowKit Go.Proofs.YtfemneoahkglmaaW.PrintWords Go.Proofs.Ytfemneoahkglmaa.Tells Go.Proofs.Ytfemneoahkglmaa.Q Go.Proofs.Ytfemneoahkglmaa.Gen
theorem FnJoinedStates : ∀ (l0 : List S37) (a1 : Int) (a2 : Int) (a3 : Int), l0.length ≤ maxLen → (∀ x ∈ l0, G37 x) → I64 a1 → I64 a2 → I64 a3 → ∃ k, laws_FnJoinedStates.f k l0 a1 a2 a3 = some true := by
  intro l t a h hl _ _ _ _
  refine Ev.rounds ?_
  unfold laws_FnJoinedStates.f
  by_cases hb : (l.length : Int) > 4096
  · exact Ev.congr (fun k => if_pos hb) (Ev.now _)
  · refine Ev.congr (fun k => if_neg hb) ?_
    refine Ev.bind (f := fun k t => _) (ev_implJoin l (by omega)) ?_
    refine Ev.bind (f := fun k t => _) (ev_specJoin l (by omega)) ?_
    have hlen : (joinR l).1.length ≤ l.length := by
      unfold joinR
      split
      · exact joinF_len _ _
      · exact Nat.zero_le _
    refine Ev.congr (fun k => if_neg (by simp)) ?_
    refine Ev.congr (fun k => if_pos rfl) (Ev.unr ?_)
    simp only [laws_FnJoinedStates.j0]
    refine Ev.congr (fun k => if_neg (by simp; omega)) ?_
    by_cases hc : consB l = true
    · have hj : joinR l = (joinF l.length l, true) := if_pos hc
      have hk := joinF_keeps l.length l hc
      have hjl := joinF_len l.length l
      rw [hj]
      refine Ev.congr (fun k => if_pos rfl) ?_
      refine Ev.bind (f := fun k t => _) (ev_implTopicLevel l (by omega) t a h) ?_
      refine Ev.bind (f := fun k t => _) (ev_implTopicLevel (joinF l.length l) (by omega) t a h) ?_
      refine Ev.bind (f := fun k t => _) (ev_IsConsistent (joinF l.length l) (by omega)) ?_
      refine Ev.congr (fun k => if_pos hk.1) ?_
      have e : topicLevelV (joinF l.length l) t a h = topicLevelV l t a h := by
        unfold topicLevelV
        rw [hk.1, hc, hk.2]
      rw [e]
      refine Ev.congr (fun k => if_pos (by simp)) ?_
      simp only [beq_self_eq_true]
      exact Ev.now _
    · have hj : joinR l = ([], false) := if_neg hc
      rw [hj]
      exact Ev.congr (fun k => if_neg (by simp)) (Ev.now _)
end Go.Proofs.Ytfemneoahkglmaa.Pure
