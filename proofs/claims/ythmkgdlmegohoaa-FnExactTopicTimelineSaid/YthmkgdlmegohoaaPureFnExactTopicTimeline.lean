/- The two programs tell the same timeline of an area and a topic: for every list, topic and area. -/
import Derived.Test.YthmkgdlmegohoaaQf8
import Derived.Test.YthmkgdlmegohoaaLaLevel
import Derived.Test.YthmkgdlmegohoaaLaTimeline
import Derived.Test.YthmkgdlmegohoaaLaMarksW
import Derived.Test.YthmkgdlmegohoaaLaMarksS
namespace Go.Proofs.Ythmkgdlmegohoaa.Q
open Go.RowKit Go.Proofs.YthmkgdlmegohoaaW.PrintWords Go.Proofs.Ythmkgdlmegohoaa.Gen
set_option linter.unusedVariables false
set_option linter.unusedSimpArgs false
def topicTLR (l : List S30) (t a : Int) : List S85 × Bool := if consB l = true ∧ (1 ≤ t ∧ t ≤ 5) ∧ 1 ≤ a ∧ a ≤ 9 then (tlF (lvl l t a) 240, true) else ([], false)
theorem topicTLR_len (l : List S30) (t a : Int) : (topicTLR l t a).1.length ≤ 240 := by
  unfold topicTLR
  by_cases h : consB l = true ∧ (1 ≤ t ∧ t ≤ 5) ∧ 1 ≤ a ∧ a ≤ 9
  · rw [if_pos h]; exact tlF_len _ _
  · rw [if_neg h]; exact Nat.zero_le _
theorem ev_topicTLL (l : List S30) (hl : l.length ≤ 1048576) (hc : consB l = true) (t a : Int) : ∀ (d n : Nat), n + d = 240 → Ev (fun k => spec_TopicTimeline.l0 k l t a (levelsP (lvl l t a) n) (n : Int)) (tlF (lvl l t a) 240, true) := by
  intro d
  induction d with
  | zero =>
    intro n hn
    have e : n = 240 := by omega
    subst e
    refine Ev.unr ?_
    simp only [spec_TopicTimeline.l0]
    refine Ev.congr (fun k => if_neg (by omega)) ?_
    refine Ev.bind (f := fun k t => _) (ev_l15Timeline (lvl l t a) (fun h => lvl_nonneg hc t a h)) ?_
    exact Ev.now _
  | succ d ih =>
    intro n hn
    have hi := ih (n + 1) (by omega)
    refine Ev.unr ?_
    simp only [spec_TopicTimeline.l0]
    refine Ev.congr (fun k => if_pos (by omega)) ?_
    refine Ev.bind (f := fun k t => _) (ev_l15Level l (by omega) _ _ _) ?_
    refine Ev.congr (fun k => if_pos (by rw [levelsP_length]; omega)) ?_
    rw [wrapS n (by omega)]
    rw [levelsP_succ] at hi
    exact hi
theorem ev_specTopicTL (l : List S30) (hl : l.length ≤ 1048576) (t a : Int) : Ev (fun k => spec_TopicTimeline.f k l t a) (topicTLR l t a) := by
  unfold spec_TopicTimeline.f topicTLR
  have hz : ∀ b, b = true → Ev (fun k => spec_TopicTimeline.j0 k l t a b) (([] : List S85), false) := by
    rintro b rfl
    refine Ev.unr ?_
    simp only [spec_TopicTimeline.j0]
    exact Ev.congr (fun k => if_pos trivial) (Ev.now _)
  refine Ev.bind (f := fun k t => _) (ev_l14List l) ?_
  by_cases h : consB l = true
  · refine Ev.congr (fun k => if_pos h) ?_
    refine Ev.bind (f := fun k t => _) (Ev.eq_now (r := decide (1 ≤ t ∧ t ≤ 5)) fun k => by unfold spec_l15Topic.f; rw [l1In_f]; rfl) ?_
    by_cases h1 : 1 ≤ t ∧ t ≤ 5
    · refine Ev.congr (fun k => if_pos (decide_eq_true h1)) ?_
      refine Ev.bind (f := fun k t => _) (Ev.eq_now (r := decide (1 ≤ a ∧ a ≤ 9)) fun k => by unfold spec_l15Area.f; rw [l1In_f]; rfl) ?_
      by_cases h2 : 1 ≤ a ∧ a ≤ 9
      · rw [if_pos ⟨h, h1, h2⟩, decide_eq_true h2]
        refine Ev.unr ?_
        simp only [spec_TopicTimeline.j0]
        refine Ev.congr (fun k => if_neg (by simp)) ?_
        exact ev_topicTLL l hl h t a 240 0 (by omega)
      · rw [if_neg (fun c => h2 c.2.2), decide_eq_false h2]
        exact hz _ rfl
    · rw [if_neg (fun c => h1 c.2.1)]
      exact Ev.congr (fun k => if_neg (by rw [decide_eq_false h1]; simp)) (hz _ rfl)
  · rw [if_neg (fun c => h c.1)]
    exact Ev.congr (fun k => if_neg h) (hz _ rfl)
theorem isTopicArea_f (t a : Int) : impl_isTopicArea.f t a = some (decide ((1 ≤ t ∧ t ≤ 5) ∧ 1 ≤ a ∧ a ≤ 9)) := by
  unfold impl_isTopicArea.f
  simp only [within_f, Option.bind_some, decide_eq_true_eq]
  by_cases h1 : 1 ≤ t ∧ t ≤ 5
  · rw [if_pos h1]; congr 1; exact decide_eq_decide.2 ⟨fun h => ⟨h1, h⟩, fun h => h.2⟩
  · rw [if_neg h1]; congr 1; exact (decide_eq_false (fun h => h1 h.1)).symm
theorem ev_implTopicTL (l : List S30) (hl : l.length ≤ 1048576) (t a : Int) : Ev (fun k => impl_TopicTimeline.f k l t a) (topicTLR l t a) := by
  unfold impl_TopicTimeline.f topicTLR
  refine Ev.congr (fun k => if_pos (by omega)) ?_
  refine Ev.bind (f := fun k t => _) (ev_IsConsistent l (by omega)) ?_
  by_cases h : consB l = true
  · refine Ev.congr (fun k => if_pos h) ?_
    refine Ev.bind (f := fun k t => _) (Ev.eq_now fun k => isTopicArea_f t a) ?_
    by_cases h1 : (1 ≤ t ∧ t ≤ 5) ∧ 1 ≤ a ∧ a ≤ 9
    · refine Ev.congr (fun k => if_pos (decide_eq_true h1)) ?_
      rw [if_pos ⟨h, h1⟩]
      refine Ev.bind (f := fun k t => _) (ev_timeline _) ?_
      exact Ev.now _
    · refine Ev.congr (fun k => if_neg (by rw [decide_eq_false h1]; simp)) ?_
      rw [if_neg (fun c => h1 c.2)]
      exact Ev.now _
  · refine Ev.congr (fun k => if_neg h) ?_
    rw [if_neg (fun c => h c.1)]
    exact Ev.now _
end Go.Proofs.Ythmkgdlmegohoaa.Q
set_option linter.unusedVariables false
set_option linter.unusedSimpArgs false
namespace Go.Proofs.Ythmkgdlmegohoaa.Pure
open Go.RowKit Go.Proofs.YthmkgdlmegohoaaW.PrintWords Go.Proofs.Ythmkgdlmegohoaa.Tells Go.Proofs.Ythmkgdlmegohoaa.Q Go.Proofs.Ythmkgdlmegohoaa.Gen
theorem FnExactTopicTimeline : ∀ (l0 : List S24) (a1 : Int) (a2 : Int), l0.length ≤ maxLen → (∀ x ∈ l0, G24 x) → I64 a1 → I64 a2 → ∃ k, laws_FnExactTopicTimeline.f k l0 a1 a2 = some true := by
  intro l a1 a2 hl _ _ _
  refine Ev.rounds ?_
  unfold laws_FnExactTopicTimeline.f
  refine Ev.bind (f := fun k t => if t < 0 then some true else _) (Ev.eq_now fun k => szW_f l 1048576 (by omega) hl) ?_
  by_cases h : (l.length : Int) ≤ 1048576
  · rw [if_pos h]
    refine Ev.congr (fun k => if_neg (by omega)) ?_
    have hc := ev_toW l (by omega)
    have hw : (wconv l).length ≤ 1048576 := by rw [wconv_length]; omega
    have hsp := ev_specTopicTL (wconv l) (by omega) a1 a2
    have him := ev_implTopicTL (wconv l) (by omega) a1 a2
    have hv := topicTLR_len (wconv l) a1 a2
    generalize topicTLR (wconv l) a1 a2 = v at hsp him hv
    refine Ev.bind (f := fun k t => _) hc ?_
    refine Ev.bind (f := fun k t => _) hsp ?_
    refine Ev.bind (f := fun k t => _) hc ?_
    refine Ev.bind (f := fun k t => _) him ?_
    refine Ev.bind (f := fun k t => _) (ev_eqVS _ (by omega)) ?_
    refine Ev.congr (fun k => if_pos (by first | rfl | trivial)) (Ev.unr ?_)
    simp only [laws_FnExactTopicTimeline.j0, bne_self_eq_false, Bool.false_eq_true, if_false]
    refine Ev.bind (f := fun k t => _) hc ?_
    refine Ev.bind (f := fun k t => _) (ev_eqVW _ (by omega)) ?_
    refine Ev.congr (fun k => if_pos (by first | rfl | trivial)) ?_
    refine Ev.bind (f := fun k t => _) (ev_markVW (wconv l) (by omega)) ?_
    refine Ev.congr (fun k => if_neg (by omega)) ?_
    refine Ev.bind (f := fun k t => _) (ev_eqVS _ (by omega)) ?_
    refine Ev.congr (fun k => if_pos (by first | rfl | trivial)) (Ev.unr ?_)
    simp only [laws_FnExactTopicTimeline.j1, bne_self_eq_false, Bool.false_eq_true, if_false]
    refine Ev.bind (f := fun k t => _) (ev_markVS _ (by omega)) ?_
    refine Ev.bind (f := fun k t => _) (ev_heldVS _ (by omega)) ?_
    refine Ev.congr (fun k => if_neg (by omega)) ?_
    refine Ev.congr (fun k => if_pos (by first | rfl | trivial)) ?_
    refine Ev.bind (f := fun k t => _) hc ?_
    refine Ev.bind (f := fun k t => _) him ?_
    refine Ev.bind (f := fun k t => _) (ev_eqVS _ (by omega)) ?_
    refine Ev.congr (fun k => if_pos (by first | rfl | trivial)) (Ev.unr ?_)
    simp only [laws_FnExactTopicTimeline.j2, bne_self_eq_false, Bool.false_eq_true, if_false]
    refine Ev.bind (f := fun k t => _) (ev_heldVS _ (by omega)) ?_
    refine Ev.congr (fun k => if_neg (by omega)) ?_
    refine Ev.congr (fun k => if_pos rfl) (Ev.now _)
  · rw [if_neg h]
    exact Ev.now _
end Go.Proofs.Ythmkgdlmegohoaa.Pure
