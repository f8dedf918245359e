/- A list and true, if it is consistent: what both programs do. -/
import Derived.Test.YthmkgdlmegohoaaQf60
import Derived.Test.YthmkgdlmegohoaaQf57
import Derived.Test.YthmkgdlmegohoaaLaW
namespace Go.Proofs.Ythmkgdlmegohoaa.Q
open Go.RowKit Go.Proofs.YthmkgdlmegohoaaW.PrintWords Go.Proofs.Ythmkgdlmegohoaa.Gen
set_option linter.unusedVariables false
set_option linter.unusedSimpArgs false
theorem consB_twelve {l : List S30} (h : consB l = true) : l.length ≤ 12 := by
  unfold consB at h; simp only [Bool.and_eq_true, decide_eq_true_eq] at h; exact h.1
def chkR (l : List S30) : List S30 × Bool := if consB l = true then (l, true) else ([], false)
theorem chkR_len (l : List S30) : (chkR l).1.length ≤ 12 := by
  unfold chkR
  by_cases h : consB l = true
  · rw [if_pos h]; exact (by unfold consB at h; simp only [Bool.and_eq_true, decide_eq_true_eq] at h; exact h.1)
  · rw [if_neg h]; exact Nat.zero_le _
theorem ev_checked (l : List S30) (hl : l.length ≤ 2097152) : Ev (fun k => impl_checkedWarnings.f k l) (chkR l) := by
  unfold impl_checkedWarnings.f chkR
  refine Ev.bind (f := fun k t => _) (ev_IsConsistent l (by omega)) ?_
  by_cases h : consB l = true
  · refine Ev.congr (fun k => if_pos h) ?_; rw [if_pos h]; exact Ev.now _
  · refine Ev.congr (fun k => if_neg h) ?_; rw [if_neg h]; exact Ev.now _
theorem ev_specChecked (l : List S30) : Ev (fun k => spec_l14Checked.f k l) (chkR l) := by
  unfold spec_l14Checked.f chkR
  refine Ev.bind (f := fun k t => _) (ev_l14List l) ?_
  by_cases h : consB l = true
  · refine Ev.congr (fun k => if_pos h) ?_; rw [if_pos h]; exact Ev.now _
  · refine Ev.congr (fun k => if_neg h) ?_; rw [if_neg h]; exact Ev.now _
end Go.Proofs.Ythmkgdlmegohoaa.Q
