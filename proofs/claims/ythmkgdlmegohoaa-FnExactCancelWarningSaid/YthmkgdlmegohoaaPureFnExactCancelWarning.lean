/- The two programs cancel a warning alike: for every list, number and hour. -/
import Derived.Test.YthmkgdlmegohoaaQf5
import Derived.Test.YthmkgdlmegohoaaLaIssue
import Derived.Test.YthmkgdlmegohoaaLaSet
import Derived.Test.YthmkgdlmegohoaaLaMarksW
namespace Go.Proofs.Ythmkgdlmegohoaa.Q
open Go.RowKit Go.Proofs.YthmkgdlmegohoaaW.PrintWords Go.Proofs.Ythmkgdlmegohoaa.Gen
set_option linter.unusedVariables false
set_option linter.unusedSimpArgs false
def cancelR (l : List S30) (i h : Int) : List S30 × Bool := if consB l = true ∧ ¬ atI l i < 0 ∧ ¬ h ≥ (l.getD (atI l i).toNat z30).f5 then (if h ≤ (l.getD (atI l i).toNat z30).f4 then (l.eraseIdx (atI l i).toNat, true) else (l.set (atI l i).toNat ⟨(l.getD (atI l i).toNat z30).f0, (l.getD (atI l i).toNat z30).f1, (l.getD (atI l i).toNat z30).f2, (l.getD (atI l i).toNat z30).f3, (l.getD (atI l i).toNat z30).f4, h⟩, true)) else ([], false)
theorem cancelR_len (l : List S30) (i h : Int) : (cancelR l i h).1.length ≤ 12 := by
  unfold cancelR
  by_cases hc : consB l = true ∧ ¬ atI l i < 0 ∧ ¬ h ≥ (l.getD (atI l i).toNat z30).f5
  · have hl := consB_len hc.1
    rw [if_pos hc]
    by_cases h2 : h ≤ (l.getD (atI l i).toNat z30).f4
    · rw [if_pos h2]
      exact Nat.le_trans (erase_len l _) hl
    · rw [if_neg h2]
      show (l.set _ _).length ≤ 12
      rw [List.length_set]; exact hl
  · rw [if_neg hc]; exact Nat.zero_le _
theorem ev_specCancel (l : List S30) (hl : l.length ≤ 1048576) (i t : Int) : Ev (fun k => spec_CancelWarning.f k l i t) (cancelR l i t) := by
  unfold spec_CancelWarning.f cancelR
  have hz : ∀ q b, b = true → Ev (fun k => spec_CancelWarning.j0 k l t q b) (([] : List S30), false) := by
    rintro q b rfl
    refine Ev.unr ?_
    simp only [spec_CancelWarning.j0]
    exact Ev.congr (fun k => if_pos trivial) (Ev.now _)
  refine Ev.bind (f := fun k t => _) (ev_find l (by omega) i) ?_
  refine Ev.bind (f := fun k t => _) (ev_l14List l) ?_
  by_cases h : consB l = true
  · refine Ev.congr (fun k => if_pos h) ?_
    rcases atI_cases l i with e | ⟨q, hq, e⟩
    · rw [if_neg (by rw [e]; omega), e]
      exact Ev.congr (fun k => if_pos (by omega)) (hz _ _ rfl)
    · rw [e]
      refine Ev.congr (fun k => if_neg (by omega)) ?_
      refine Ev.congr (fun k => if_pos (by omega)) ?_
      refine Ev.congr (fun k => if_pos (by omega)) ?_
      rw [rdW, Int.toNat_natCast]
      by_cases h2 : t ≥ (l.getD q z30).f5
      · rw [if_neg (fun c => c.2.2 h2)]
        exact hz _ _ (decide_eq_true h2)
      · rw [if_pos ⟨h, by omega, h2⟩, decide_eq_false h2]
        refine Ev.unr ?_
        simp only [spec_CancelWarning.j0]
        refine Ev.congr (fun k => if_neg (by simp)) ?_
        refine Ev.congr (fun k => if_pos (by omega)) ?_
        refine Ev.congr (fun k => if_pos (by omega)) ?_
        rw [rdW]
        by_cases h3 : t ≤ (l.getD q z30).f4
        · refine Ev.congr (fun k => if_pos h3) ?_
          rw [if_pos h3]
          refine Ev.eq_now fun k => ?_
          rw [show wrap64 ((q : Int) + 1) = ((q + 1 : Nat) : Int) from by unfold wrap64; omega]
          simp only [Option.bind_some, List.nil_append, List.length_nil, Nat.zero_add, Int.toNat_natCast]
          rw [if_pos (by omega), if_pos (by rw [List.length_take]; omega), if_pos (by omega), if_pos (by omega), if_pos (by rw [List.length_take, List.length_drop]; omega), erase_eq]
        · refine Ev.congr (fun k => if_neg h3) ?_
          rw [if_neg h3]
          refine Ev.bind (f := fun k t => _) (Ev.eq_now fun k => with_f l (by omega) q hq ⟨(l.getD q z30).f0, (l.getD q z30).f1, (l.getD q z30).f2, (l.getD q z30).f3, (l.getD q z30).f4, t⟩) ?_
          refine Ev.bind (f := fun k t => _) (ev_specChecked _) ?_
          unfold chkR
          rw [if_pos (cons_short h hq t (by omega) (by omega))]
          exact Ev.now _
  · rw [if_neg (fun c => h c.1)]
    exact Ev.congr (fun k => if_neg h) (hz _ _ rfl)
theorem ev_implCancel (l : List S30) (hl : l.length ≤ 1048576) (i t : Int) : Ev (fun k => impl_CancelWarning.f k l i t) (cancelR l i t) := by
  unfold impl_CancelWarning.f cancelR
  have hz : ∀ q b, b = true → Ev (fun k => impl_CancelWarning.j0 k l t q b) (([] : List S30), false) := by
    rintro q b rfl
    refine Ev.unr ?_
    simp only [impl_CancelWarning.j0]
    exact Ev.congr (fun k => if_pos trivial) (Ev.now _)
  refine Ev.bind (f := fun k t => _) (ev_at l (by omega) i) ?_
  by_cases h : consB l = true
  · rw [if_pos h]
    rcases atI_cases l i with e | ⟨q, hq, e⟩
    · rw [if_neg (by rw [e]; omega), e]
      exact Ev.congr (fun k => if_pos (by omega)) (hz _ _ rfl)
    · rw [e]
      refine Ev.congr (fun k => if_neg (by omega)) ?_
      refine Ev.congr (fun k => if_pos (by omega)) ?_
      refine Ev.congr (fun k => if_pos (by omega)) ?_
      rw [rdW, Int.toNat_natCast]
      by_cases h2 : t ≥ (l.getD q z30).f5
      · rw [if_neg (fun c => c.2.2 h2)]
        exact hz _ _ (decide_eq_true h2)
      · rw [if_pos ⟨h, by omega, h2⟩, decide_eq_false h2]
        refine Ev.unr ?_
        simp only [impl_CancelWarning.j0]
        refine Ev.congr (fun k => if_neg (by simp)) ?_
        refine Ev.bind (f := fun k t => _) (Ev.eq_now fun k => clone_f l (by omega)) ?_
        refine Ev.congr (fun k => if_pos (by omega)) ?_
        refine Ev.congr (fun k => if_pos (by omega)) ?_
        rw [rdW]
        by_cases h3 : t ≤ (l.getD q z30).f4
        · refine Ev.congr (fun k => if_pos h3) ?_
          rw [if_pos h3]
          refine Ev.bind (f := fun k t => _) (Ev.eq_now fun k => delete_f l q hq (by omega)) ?_
          exact Ev.now _
        · refine Ev.congr (fun k => if_neg h3) ?_
          rw [if_neg h3]
          refine Ev.congr (fun k => if_pos (by omega)) ?_
          exact Ev.now _
  · rw [if_neg h, if_neg (fun c => h c.1)]
    exact Ev.congr (fun k => if_pos (by omega)) (hz _ _ rfl)
end Go.Proofs.Ythmkgdlmegohoaa.Q
set_option linter.unusedVariables false
set_option linter.unusedSimpArgs false
namespace Go.Proofs.Ythmkgdlmegohoaa.Pure
open Go.RowKit Go.Proofs.YthmkgdlmegohoaaW.PrintWords Go.Proofs.Ythmkgdlmegohoaa.Tells Go.Proofs.Ythmkgdlmegohoaa.Q Go.Proofs.Ythmkgdlmegohoaa.Gen
theorem FnExactCancelWarning : ∀ (l0 : List S24) (a1 : Int) (a2 : Int), l0.length ≤ maxLen → (∀ x ∈ l0, G24 x) → I64 a1 → I64 a2 → ∃ k, laws_FnExactCancelWarning.f k l0 a1 a2 = some true := by
  intro l a1 a2 hl _ _ _
  refine Ev.rounds ?_
  unfold laws_FnExactCancelWarning.f
  refine Ev.bind (f := fun k t => if t < 0 then some true else _) (Ev.eq_now fun k => szW_f l 1048576 (by omega) hl) ?_
  by_cases h : (l.length : Int) ≤ 1048576
  · rw [if_pos h]
    refine Ev.congr (fun k => if_neg (by omega)) ?_
    have hc := ev_toW l (by omega)
    have hw : (wconv l).length ≤ 1048576 := by rw [wconv_length]; omega
    have hsp := ev_specCancel (wconv l) (by omega) a1 a2
    have him := ev_implCancel (wconv l) (by omega) a1 a2
    have hv := cancelR_len (wconv l) a1 a2
    generalize cancelR (wconv l) a1 a2 = v at hsp him hv
    refine Ev.bind (f := fun k t => _) hc ?_
    refine Ev.bind (f := fun k t => _) hsp ?_
    refine Ev.bind (f := fun k t => _) hc ?_
    refine Ev.bind (f := fun k t => _) him ?_
    refine Ev.bind (f := fun k t => _) (ev_eqVW _ (by omega)) ?_
    refine Ev.congr (fun k => if_pos (by first | rfl | trivial)) (Ev.unr ?_)
    simp only [laws_FnExactCancelWarning.j0, bne_self_eq_false, Bool.false_eq_true, if_false]
    refine Ev.bind (f := fun k t => _) hc ?_
    refine Ev.bind (f := fun k t => _) (ev_eqVW _ (by omega)) ?_
    refine Ev.congr (fun k => if_pos (by first | rfl | trivial)) ?_
    refine Ev.bind (f := fun k t => _) (ev_markVW (wconv l) (by omega)) ?_
    refine Ev.congr (fun k => if_neg (by omega)) ?_
    refine Ev.bind (f := fun k t => _) (ev_eqVW _ (by omega)) ?_
    refine Ev.congr (fun k => if_pos (by first | rfl | trivial)) (Ev.unr ?_)
    simp only [laws_FnExactCancelWarning.j1, bne_self_eq_false, Bool.false_eq_true, if_false]
    refine Ev.bind (f := fun k t => _) (ev_markVW _ (by omega)) ?_
    refine Ev.bind (f := fun k t => _) (ev_heldVW _ (by omega)) ?_
    refine Ev.congr (fun k => if_neg (by omega)) ?_
    refine Ev.congr (fun k => if_pos (by first | rfl | trivial)) ?_
    refine Ev.bind (f := fun k t => _) hc ?_
    refine Ev.bind (f := fun k t => _) him ?_
    refine Ev.bind (f := fun k t => _) (ev_eqVW _ (by omega)) ?_
    refine Ev.congr (fun k => if_pos (by first | rfl | trivial)) (Ev.unr ?_)
    simp only [laws_FnExactCancelWarning.j2, bne_self_eq_false, Bool.false_eq_true, if_false]
    refine Ev.bind (f := fun k t => _) (ev_heldVW _ (by omega)) ?_
    refine Ev.congr (fun k => if_neg (by omega)) ?_
    refine Ev.congr (fun k => if_pos rfl) (Ev.now _)
  · rw [if_neg h]
    exact Ev.now _
end Go.Proofs.Ythmkgdlmegohoaa.Pure
