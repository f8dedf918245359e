/- The two programs issue the same warning: for every list and warning. -/
import Derived.Test.YthmkgdlmegohoaaQf3
import Derived.Test.YthmkgdlmegohoaaLaIssue
import Derived.Test.YthmkgdlmegohoaaLaMarksW
namespace Go.Proofs.Ythmkgdlmegohoaa.Q
open Go.RowKit Go.Proofs.YthmkgdlmegohoaaW.PrintWords Go.Proofs.Ythmkgdlmegohoaa.Gen
set_option linter.unusedVariables false
set_option linter.unusedSimpArgs false
def issueR (l : List S30) (x : S30) : List S30 × Int × Bool := if consB l = true then chkI (addW l x) (idN l) else ([], 0, false)
theorem issueR_len (l : List S30) (x : S30) : (issueR l x).1.length ≤ 12 := by
  unfold issueR
  by_cases h : consB l = true
  · rw [if_pos h]; exact chkI_len _ _
  · rw [if_neg h]; exact Nat.zero_le _
theorem ev_specIssue (l : List S30) (hl : l.length ≤ 1048576) (x : S30) : Ev (fun k => spec_IssueWarning.f k l x.f0 x.f1 x.f2 x.f3 x.f4 x.f5) (issueR l x) := by
  unfold spec_IssueWarning.f issueR
  refine Ev.bind (f := fun k t => _) (ev_l14List l) ?_
  by_cases h : consB l = true
  · rw [if_pos h]
    refine Ev.congr (fun k => if_pos h) ?_
    refine Ev.bind (f := fun k t => _) (Ev.eq_now fun k => issue_f l (by omega) x) ?_
    refine Ev.bind (f := fun k t => _) (ev_l14List _) ?_
    unfold chkI
    by_cases h2 : consB (addW l x) = true
    · refine Ev.congr (fun k => if_pos h2) ?_; rw [if_pos h2]; exact Ev.now _
    · refine Ev.congr (fun k => if_neg h2) ?_; rw [if_neg h2]; exact Ev.now _
  · refine Ev.congr (fun k => if_neg h) ?_; rw [if_neg h]; exact Ev.now _
theorem ev_implIssue (l : List S30) (hl : l.length ≤ 1048576) (x : S30) : Ev (fun k => impl_IssueWarning.f k l x.f0 x.f1 x.f2 x.f3 x.f4 x.f5) (issueR l x) := by
  unfold impl_IssueWarning.f issueR
  refine Ev.bind (f := fun k t => _) (ev_IsConsistent l (by omega)) ?_
  by_cases h : consB l = true
  · rw [if_pos h]
    refine Ev.congr (fun k => if_pos h) ?_
    refine Ev.bind (f := fun k t => _) (ev_issued l hl x) ?_
    exact Ev.now _
  · refine Ev.congr (fun k => if_neg h) ?_; rw [if_neg h]; exact Ev.now _
end Go.Proofs.Ythmkgdlmegohoaa.Q
set_option linter.unusedVariables false
set_option linter.unusedSimpArgs false
namespace Go.Proofs.Ythmkgdlmegohoaa.Pure
open Go.RowKit Go.Proofs.YthmkgdlmegohoaaW.PrintWords Go.Proofs.Ythmkgdlmegohoaa.Tells Go.Proofs.Ythmkgdlmegohoaa.Q Go.Proofs.Ythmkgdlmegohoaa.Gen
theorem FnExactIssueWarning : ∀ (l0 : List S24) (x1 : S24), l0.length ≤ maxLen → (∀ x ∈ l0, G24 x) → G24 x1 → ∃ k, laws_FnExactIssueWarning.f k l0 x1.f0 x1.f1 x1.f2 x1.f3 x1.f4 x1.f5 = some true := by
  intro l x1 hl _ _
  refine Ev.rounds ?_
  unfold laws_FnExactIssueWarning.f
  refine Ev.bind (f := fun k t => if t < 0 then some true else _) (Ev.eq_now fun k => szW_f l 1048576 (by omega) hl) ?_
  by_cases h : (l.length : Int) ≤ 1048576
  · rw [if_pos h]
    refine Ev.congr (fun k => if_neg (by omega)) ?_
    have hc := ev_toW l (by omega)
    have hw : (wconv l).length ≤ 1048576 := by rw [wconv_length]; omega
    have hsp := ev_specIssue (wconv l) (by omega) (conv x1)
    have him := ev_implIssue (wconv l) (by omega) (conv x1)
    have hv := issueR_len (wconv l) (conv x1)
    generalize issueR (wconv l) (conv x1) = v at hsp him hv
    refine Ev.bind (f := fun k t => _) hc ?_
    try simp only [laws_toWarning.f, Option.bind_some]
    refine Ev.bind (f := fun k t => _) hsp ?_
    refine Ev.bind (f := fun k t => _) hc ?_
    try simp only [laws_toWarning.f, Option.bind_some]
    refine Ev.bind (f := fun k t => _) him ?_
    refine Ev.bind (f := fun k t => _) (ev_eqVW _ (by omega)) ?_
    refine Ev.congr (fun k => if_pos (by first | rfl | trivial)) ?_
    refine Ev.congr (fun k => if_pos (by first | rfl | trivial)) (Ev.unr ?_)
    simp only [laws_FnExactIssueWarning.j0, bne_self_eq_false, Bool.false_eq_true, if_false]
    refine Ev.bind (f := fun k t => _) hc ?_
    refine Ev.bind (f := fun k t => _) (ev_eqVW _ (by omega)) ?_
    refine Ev.congr (fun k => if_pos (by first | rfl | trivial)) ?_
    refine Ev.bind (f := fun k t => _) (ev_markVW (wconv l) (by omega)) ?_
    refine Ev.congr (fun k => if_neg (by omega)) ?_
    refine Ev.bind (f := fun k t => _) (ev_eqVW _ (by omega)) ?_
    refine Ev.congr (fun k => if_pos (by first | rfl | trivial)) ?_
    refine Ev.congr (fun k => if_pos (by first | rfl | trivial)) (Ev.unr ?_)
    simp only [laws_FnExactIssueWarning.j1, bne_self_eq_false, Bool.false_eq_true, if_false]
    refine Ev.bind (f := fun k t => _) (ev_markVW _ (by omega)) ?_
    refine Ev.bind (f := fun k t => _) (ev_heldVW _ (by omega)) ?_
    refine Ev.congr (fun k => if_neg (by omega)) ?_
    refine Ev.congr (fun k => if_pos (by first | rfl | trivial)) ?_
    refine Ev.bind (f := fun k t => _) hc ?_
    try simp only [laws_toWarning.f, Option.bind_some]
    refine Ev.bind (f := fun k t => _) him ?_
    refine Ev.bind (f := fun k t => _) (ev_eqVW _ (by omega)) ?_
    refine Ev.congr (fun k => if_pos (by first | rfl | trivial)) ?_
    refine Ev.congr (fun k => if_pos (by first | rfl | trivial)) (Ev.unr ?_)
    simp only [laws_FnExactIssueWarning.j2, bne_self_eq_false, Bool.false_eq_true, if_false]
    refine Ev.bind (f := fun k t => _) (ev_heldVW _ (by omega)) ?_
    refine Ev.congr (fun k => if_neg (by omega)) ?_
    refine Ev.congr (fun k => if_pos rfl) (Ev.now _)
  · rw [if_neg h]
    exact Ev.now _
end Go.Proofs.Ythmkgdlmegohoaa.Pure
