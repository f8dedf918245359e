/- A list and true, if it is consistent: what both programs do. -/
import Derived.Test.YtfemneoahkglmaaQf50
import Derived.Test.YtfemneoahkglmaaQf42
import Derived.Test.YtfemneoahkglmaaLaW
namespace Go.Proofs.Ytfemneoahkglmaa.Q
open Go.RowKit Go.Proofs.YtfemneoahkglmaaW.PrintWords Go.Proofs.Ytfemneoahkglmaa.Gen
set_option linter.unusedVariables false
set_option linter.unusedSimpArgs false
theorem consB_twelve {l : List S37} (h : consB l = true) : l.length ≤ 12 := by
  unfold consB at h; simp only [Bool.and_eq_true, decide_eq_true_eq] at h; exact h.1
def chkR (l : List S37) : List S37 × Bool := if consB l = true then (l, true) else ([], false)
theorem chkR_len (l : List S37) : (chkR l).1.length ≤ 12 := by
  unfold chkR
  by_cases h : consB l = true
  · rw [if_pos h]; exact (by unfold consB at h; simp only [Bool.and_eq_true, decide_eq_true_eq] at h; exact h.1)
  · rw [if_neg h]; exact Nat.zero_le _
theorem ev_checked (l : List S37) (hl : l.length ≤ 2097152) : Ev (fun k => impl_checkedWarnings.f k l) (chkR l) := by
  unfold impl_checkedWarnings.f chkR
  refine Ev.bind (f := fun k t => _) (ev_IsConsistent l (by omega)) ?_
  by_cases h : consB l = true
  · refine Ev.congr (fun k => if_pos h) ?_; rw [if_pos h]; exact Ev.now _
  · refine Ev.congr (fun k => if_neg h) ?_; rw [if_neg h]; exact Ev.now _
theorem ev_specChecked (l : List S37) : Ev (fun k => spec_l14Checked.f k l) (chkR l) := by
  unfold spec_l14Checked.f chkR
  refine Ev.bind (f := fun k t => _) (ev_l14List l) ?_
  by_cases h : consB l = true
  · refine Ev.congr (fun k => if_pos h) ?_; rw [if_pos h]; exact Ev.now _
  · refine Ev.congr (fun k => if_neg h) ?_; rw [if_neg h]; exact Ev.now _
end Go.Proofs.Ytfemneoahkglmaa.Q
