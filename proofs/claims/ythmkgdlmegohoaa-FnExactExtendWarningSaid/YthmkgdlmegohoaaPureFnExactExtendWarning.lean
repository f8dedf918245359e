/- The two programs extend a warning alike: for every list, number and hour. -/
import Derived.Test.YthmkgdlmegohoaaQf4
import Derived.Test.YthmkgdlmegohoaaLaIssue
import Derived.Test.YthmkgdlmegohoaaLaMarksW
namespace Go.Proofs.Ythmkgdlmegohoaa.Q
open Go.RowKit Go.Proofs.YthmkgdlmegohoaaW.PrintWords Go.Proofs.Ythmkgdlmegohoaa.Gen
set_option linter.unusedVariables false
set_option linter.unusedSimpArgs false
def setTo (l : List S30) (q : Nat) (t : Int) : List S30 := l.set q ⟨(l.getD q z30).f0, (l.getD q z30).f1, (l.getD q z30).f2, (l.getD q z30).f3, (l.getD q z30).f4, t⟩
def extendR (l : List S30) (i t : Int) : List S30 × Bool := if consB l = true ∧ ¬ atI l i < 0 ∧ ¬ t ≤ (l.getD (atI l i).toNat z30).f5 then chkR (setTo l (atI l i).toNat t) else ([], false)
theorem extendR_len (l : List S30) (i t : Int) : (extendR l i t).1.length ≤ 12 := by
  unfold extendR
  by_cases h : consB l = true ∧ ¬ atI l i < 0 ∧ ¬ t ≤ (l.getD (atI l i).toNat z30).f5
  · rw [if_pos h]; exact chkR_len _
  · rw [if_neg h]; exact Nat.zero_le _
theorem ev_specExtend (l : List S30) (hl : l.length ≤ 1048576) (i t : Int) : Ev (fun k => spec_ExtendWarning.f k l i t) (extendR l i t) := by
  unfold spec_ExtendWarning.f extendR
  have hz : ∀ q b, b = true → Ev (fun k => spec_ExtendWarning.j0 k l t q b) (([] : List S30), false) := by
    rintro q b rfl
    refine Ev.unr ?_
    simp only [spec_ExtendWarning.j0]
    exact Ev.congr (fun k => if_pos trivial) (Ev.now _)
  refine Ev.bind (f := fun k t => _) (ev_find l (by omega) i) ?_
  refine Ev.bind (f := fun k t => _) (ev_l14List l) ?_
  by_cases h : consB l = true
  · refine Ev.congr (fun k => if_pos h) ?_
    rcases atI_cases l i with e | ⟨q, hq, e⟩
    · rw [if_neg (by rw [e]; omega), e]
      exact Ev.congr (fun k => if_pos (by omega)) (hz _ _ rfl)
    · rw [e]
      refine Ev.congr (fun k => if_neg (by omega)) ?_
      refine Ev.congr (fun k => if_pos (by omega)) ?_
      refine Ev.congr (fun k => if_pos (by omega)) ?_
      rw [rdW, Int.toNat_natCast]
      by_cases h2 : t ≤ (l.getD q z30).f5
      · rw [if_neg (fun c => c.2.2 h2)]
        exact hz _ _ (decide_eq_true h2)
      · rw [if_pos ⟨h, by omega, h2⟩, decide_eq_false h2]
        refine Ev.unr ?_
        simp only [spec_ExtendWarning.j0]
        refine Ev.congr (fun k => if_neg (by simp)) ?_
        refine Ev.congr (fun k => if_pos (by omega)) ?_
        refine Ev.congr (fun k => if_pos (by omega)) ?_
        refine Ev.bind (f := fun k t => _) (Ev.eq_now fun k => with_f l (by omega) q hq ⟨(l.getD q z30).f0, (l.getD q z30).f1, (l.getD q z30).f2, (l.getD q z30).f3, (l.getD q z30).f4, t⟩) ?_
        refine Ev.bind (f := fun k t => _) (ev_specChecked _) ?_
        exact Ev.now _
  · rw [if_neg (fun c => h c.1)]
    exact Ev.congr (fun k => if_neg h) (hz _ _ rfl)
theorem ev_implExtend (l : List S30) (hl : l.length ≤ 1048576) (i t : Int) : Ev (fun k => impl_ExtendWarning.f k l i t) (extendR l i t) := by
  unfold impl_ExtendWarning.f extendR
  have hz : ∀ q b, b = true → Ev (fun k => impl_ExtendWarning.j0 k l t q b) (([] : List S30), false) := by
    rintro q b rfl
    refine Ev.unr ?_
    simp only [impl_ExtendWarning.j0]
    exact Ev.congr (fun k => if_pos trivial) (Ev.now _)
  refine Ev.bind (f := fun k t => _) (ev_at l (by omega) i) ?_
  by_cases h : consB l = true
  · rw [if_pos h]
    rcases atI_cases l i with e | ⟨q, hq, e⟩
    · rw [if_neg (by rw [e]; omega), e]
      exact Ev.congr (fun k => if_pos (by omega)) (hz _ _ rfl)
    · rw [e]
      refine Ev.congr (fun k => if_neg (by omega)) ?_
      refine Ev.congr (fun k => if_pos (by omega)) ?_
      refine Ev.congr (fun k => if_pos (by omega)) ?_
      rw [rdW, Int.toNat_natCast]
      by_cases h2 : t ≤ (l.getD q z30).f5
      · rw [if_neg (fun c => c.2.2 h2)]
        exact hz _ _ (decide_eq_true h2)
      · rw [if_pos ⟨h, by omega, h2⟩, decide_eq_false h2]
        refine Ev.unr ?_
        simp only [impl_ExtendWarning.j0]
        refine Ev.congr (fun k => if_neg (by simp)) ?_
        refine Ev.bind (f := fun k t => _) (Ev.eq_now fun k => clone_f l (by omega)) ?_
        refine Ev.congr (fun k => if_pos (by omega)) ?_
        refine Ev.congr (fun k => if_pos (by omega)) ?_
        refine Ev.bind (f := fun k t => _) (ev_checked (setTo l q t) (by unfold setTo; rw [List.length_set]; omega)) ?_
        exact Ev.now _
  · rw [if_neg h, if_neg (fun c => h c.1)]
    exact Ev.congr (fun k => if_pos (by omega)) (hz _ _ rfl)
end Go.Proofs.Ythmkgdlmegohoaa.Q
set_option linter.unusedVariables false
set_option linter.unusedSimpArgs false
namespace Go.Proofs.Ythmkgdlmegohoaa.Pure
open Go.RowKit Go.Proofs.YthmkgdlmegohoaaW.PrintWords Go.Proofs.Ythmkgdlmegohoaa.Tells Go.Proofs.Ythmkgdlmegohoaa.Q Go.Proofs.Ythmkgdlmegohoaa.Gen
theorem FnExactExtendWarning : ∀ (l0 : List S24) (a1 : Int) (a2 : Int), l0.length ≤ maxLen → (∀ x ∈ l0, G24 x) → I64 a1 → I64 a2 → ∃ k, laws_FnExactExtendWarning.f k l0 a1 a2 = some true := by
  intro l a1 a2 hl _ _ _
  refine Ev.rounds ?_
  unfold laws_FnExactExtendWarning.f
  refine Ev.bind (f := fun k t => if t < 0 then some true else _) (Ev.eq_now fun k => szW_f l 1048576 (by omega) hl) ?_
  by_cases h : (l.length : Int) ≤ 1048576
  · rw [if_pos h]
    refine Ev.congr (fun k => if_neg (by omega)) ?_
    have hc := ev_toW l (by omega)
    have hw : (wconv l).length ≤ 1048576 := by rw [wconv_length]; omega
    have hsp := ev_specExtend (wconv l) (by omega) a1 a2
    have him := ev_implExtend (wconv l) (by omega) a1 a2
    have hv := extendR_len (wconv l) a1 a2
    generalize extendR (wconv l) a1 a2 = v at hsp him hv
    refine Ev.bind (f := fun k t => _) hc ?_
    refine Ev.bind (f := fun k t => _) hsp ?_
    refine Ev.bind (f := fun k t => _) hc ?_
    refine Ev.bind (f := fun k t => _) him ?_
    refine Ev.bind (f := fun k t => _) (ev_eqVW _ (by omega)) ?_
    refine Ev.congr (fun k => if_pos (by first | rfl | trivial)) (Ev.unr ?_)
    simp only [laws_FnExactExtendWarning.j0, bne_self_eq_false, Bool.false_eq_true, if_false]
    refine Ev.bind (f := fun k t => _) hc ?_
    refine Ev.bind (f := fun k t => _) (ev_eqVW _ (by omega)) ?_
    refine Ev.congr (fun k => if_pos (by first | rfl | trivial)) ?_
    refine Ev.bind (f := fun k t => _) (ev_markVW (wconv l) (by omega)) ?_
    refine Ev.congr (fun k => if_neg (by omega)) ?_
    refine Ev.bind (f := fun k t => _) (ev_eqVW _ (by omega)) ?_
    refine Ev.congr (fun k => if_pos (by first | rfl | trivial)) (Ev.unr ?_)
    simp only [laws_FnExactExtendWarning.j1, bne_self_eq_false, Bool.false_eq_true, if_false]
    refine Ev.bind (f := fun k t => _) (ev_markVW _ (by omega)) ?_
    refine Ev.bind (f := fun k t => _) (ev_heldVW _ (by omega)) ?_
    refine Ev.congr (fun k => if_neg (by omega)) ?_
    refine Ev.congr (fun k => if_pos (by first | rfl | trivial)) ?_
    refine Ev.bind (f := fun k t => _) hc ?_
    refine Ev.bind (f := fun k t => _) him ?_
    refine Ev.bind (f := fun k t => _) (ev_eqVW _ (by omega)) ?_
    refine Ev.congr (fun k => if_pos (by first | rfl | trivial)) (Ev.unr ?_)
    simp only [laws_FnExactExtendWarning.j2, bne_self_eq_false, Bool.false_eq_true, if_false]
    refine Ev.bind (f := fun k t => _) (ev_heldVW _ (by omega)) ?_
    refine Ev.congr (fun k => if_neg (by omega)) ?_
    refine Ev.congr (fun k => if_pos rfl) (Ev.now _)
  · rw [if_neg h]
    exact Ev.now _
end Go.Proofs.Ythmkgdlmegohoaa.Pure
