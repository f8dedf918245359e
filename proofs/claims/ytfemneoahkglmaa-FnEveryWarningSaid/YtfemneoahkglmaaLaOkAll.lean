/- What the editing functions hand back is consistent. -/
import Derived.Test.YtfemneoahkglmaaQf22
import Derived.Test.YtfemneoahkglmaaQf19
import Derived.Test.YtfemneoahkglmaaQf23
import Derived.Test.YtfemneoahkglmaaQf21
import Derived.Test.YtfemneoahkglmaaQf18
import Derived.Test.YtfemneoahkglmaaQf17
import Derived.Test.YtfemneoahkglmaaQf13
import Derived.Test.YtfemneoahkglmaaQf12
import Derived.Test.YtfemneoahkglmaaLaApart
namespace Go.Proofs.Ytfemneoahkglmaa.Q
open Go.RowKit Go.Proofs.YtfemneoahkglmaaW.PrintWords Go.Proofs.Ytfemneoahkglmaa.Gen
set_option linter.unusedVariables false
set_option linter.unusedSimpArgs false
/-! IssueWarning -/
def issueR (l : List S37) (x : S37) : List S37 × Int × Bool := if consB l = true then chkI (addW l x) (idN l) else ([], 0, false)
theorem issueR_len (l : List S37) (x : S37) : (issueR l x).1.length ≤ 12 := by
  unfold issueR
  by_cases h : consB l = true
  · rw [if_pos h]; exact chkI_len _ _
  · rw [if_neg h]; exact Nat.zero_le _
theorem ev_specIssue (l : List S37) (hl : l.length ≤ 1048576) (x : S37) : Ev (fun k => spec_IssueWarning.f k l x.f0 x.f1 x.f2 x.f3 x.f4 x.f5) (issueR l x) := by
  unfold spec_IssueWarning.f issueR
  refine Ev.bind (f := fun k t => _) (ev_l14List l) ?_
  by_cases h : consB l = true
  · rw [if_pos h]
    refine Ev.congr (fun k => if_pos h) ?_
    refine Ev.bind (f := fun k t => _) (Ev.eq_now fun k => issue_f l (by omega) x) ?_
    refine Ev.bind (f := fun k t => _) (ev_l14List _) ?_
    unfold chkI
    by_cases h2 : consB (addW l x) = true
    · refine Ev.congr (fun k => if_pos h2) ?_; rw [if_pos h2]; exact Ev.now _
    · refine Ev.congr (fun k => if_neg h2) ?_; rw [if_neg h2]; exact Ev.now _
  · refine Ev.congr (fun k => if_neg h) ?_; rw [if_neg h]; exact Ev.now _
theorem ev_implIssue (l : List S37) (hl : l.length ≤ 1048576) (x : S37) : Ev (fun k => impl_IssueWarning.f k l x.f0 x.f1 x.f2 x.f3 x.f4 x.f5) (issueR l x) := by
  unfold impl_IssueWarning.f issueR
  refine Ev.bind (f := fun k t => _) (ev_IsConsistent l (by omega)) ?_
  by_cases h : consB l = true
  · rw [if_pos h]
    refine Ev.congr (fun k => if_pos h) ?_
    refine Ev.bind (f := fun k t => _) (ev_issued l hl x) ?_
    exact Ev.now _
  · refine Ev.congr (fun k => if_neg h) ?_; rw [if_neg h]; exact Ev.now _
/-! ExtendWarning -/
def setTo (l : List S37) (q : Nat) (t : Int) : List S37 := l.set q ⟨(l.getD q z37).f0, (l.getD q z37).f1, (l.getD q z37).f2, (l.getD q z37).f3, (l.getD q z37).f4, t⟩
def extendR (l : List S37) (i t : Int) : List S37 × Bool := if consB l = true ∧ ¬ atI l i < 0 ∧ ¬ t ≤ (l.getD (atI l i).toNat z37).f5 then chkR (setTo l (atI l i).toNat t) else ([], false)
theorem extendR_len (l : List S37) (i t : Int) : (extendR l i t).1.length ≤ 12 := by
  unfold extendR
  by_cases h : consB l = true ∧ ¬ atI l i < 0 ∧ ¬ t ≤ (l.getD (atI l i).toNat z37).f5
  · rw [if_pos h]; exact chkR_len _
  · rw [if_neg h]; exact Nat.zero_le _
theorem ev_specExtend (l : List S37) (hl : l.length ≤ 1048576) (i t : Int) : Ev (fun k => spec_ExtendWarning.f k l i t) (extendR l i t) := by
  unfold spec_ExtendWarning.f extendR
  have hz : ∀ q b, b = true → Ev (fun k => spec_ExtendWarning.j0 k l t q b) (([] : List S37), false) := by
    rintro q b rfl
    refine Ev.unr ?_
    simp only [spec_ExtendWarning.j0]
    exact Ev.congr (fun k => if_pos trivial) (Ev.now _)
  refine Ev.bind (f := fun k t => _) (ev_find l (by omega) i) ?_
  refine Ev.bind (f := fun k t => _) (ev_l14List l) ?_
  by_cases h : consB l = true
  · refine Ev.congr (fun k => if_pos h) ?_
    rcases atI_cases l i with e | ⟨q, hq, e⟩
    · rw [if_neg (by rw [e]; omega), e]
      exact Ev.congr (fun k => if_pos (by omega)) (hz _ _ rfl)
    · rw [e]
      refine Ev.congr (fun k => if_neg (by omega)) ?_
      refine Ev.congr (fun k => if_pos (by omega)) ?_
      refine Ev.congr (fun k => if_pos (by omega)) ?_
      rw [rdW, Int.toNat_natCast]
      by_cases h2 : t ≤ (l.getD q z37).f5
      · rw [if_neg (fun c => c.2.2 h2)]
        exact hz _ _ (decide_eq_true h2)
      · rw [if_pos ⟨h, by omega, h2⟩, decide_eq_false h2]
        refine Ev.unr ?_
        simp only [spec_ExtendWarning.j0]
        refine Ev.congr (fun k => if_neg (by simp)) ?_
        refine Ev.congr (fun k => if_pos (by omega)) ?_
        refine Ev.congr (fun k => if_pos (by omega)) ?_
        refine Ev.bind (f := fun k t => _) (Ev.eq_now fun k => with_f l (by omega) q hq ⟨(l.getD q z37).f0, (l.getD q z37).f1, (l.getD q z37).f2, (l.getD q z37).f3, (l.getD q z37).f4, t⟩) ?_
        refine Ev.bind (f := fun k t => _) (ev_specChecked _) ?_
        exact Ev.now _
  · rw [if_neg (fun c => h c.1)]
    exact Ev.congr (fun k => if_neg h) (hz _ _ rfl)
theorem ev_implExtend (l : List S37) (hl : l.length ≤ 1048576) (i t : Int) : Ev (fun k => impl_ExtendWarning.f k l i t) (extendR l i t) := by
  unfold impl_ExtendWarning.f extendR
  have hz : ∀ q b, b = true → Ev (fun k => impl_ExtendWarning.j0 k l t q b) (([] : List S37), false) := by
    rintro q b rfl
    refine Ev.unr ?_
    simp only [impl_ExtendWarning.j0]
    exact Ev.congr (fun k => if_pos trivial) (Ev.now _)
  refine Ev.bind (f := fun k t => _) (ev_at l (by omega) i) ?_
  by_cases h : consB l = true
  · rw [if_pos h]
    rcases atI_cases l i with e | ⟨q, hq, e⟩
    · rw [if_neg (by rw [e]; omega), e]
      exact Ev.congr (fun k => if_pos (by omega)) (hz _ _ rfl)
    · rw [e]
      refine Ev.congr (fun k => if_neg (by omega)) ?_
      refine Ev.congr (fun k => if_pos (by omega)) ?_
      refine Ev.congr (fun k => if_pos (by omega)) ?_
      rw [rdW, Int.toNat_natCast]
      by_cases h2 : t ≤ (l.getD q z37).f5
      · rw [if_neg (fun c => c.2.2 h2)]
        exact hz _ _ (decide_eq_true h2)
      · rw [if_pos ⟨h, by omega, h2⟩, decide_eq_false h2]
        refine Ev.unr ?_
        simp only [impl_ExtendWarning.j0]
        refine Ev.congr (fun k => if_neg (by simp)) ?_
        refine Ev.bind (f := fun k t => _) (Ev.eq_now fun k => clone_f l (by omega)) ?_
        refine Ev.congr (fun k => if_pos (by omega)) ?_
        refine Ev.congr (fun k => if_pos (by omega)) ?_
        refine Ev.bind (f := fun k t => _) (ev_checked (setTo l q t) (by unfold setTo; rw [List.length_set]; omega)) ?_
        exact Ev.now _
  · rw [if_neg h, if_neg (fun c => h c.1)]
    exact Ev.congr (fun k => if_pos (by omega)) (hz _ _ rfl)
/-! CancelWarning -/
def cancelR (l : List S37) (i h : Int) : List S37 × Bool := if consB l = true ∧ ¬ atI l i < 0 ∧ ¬ h ≥ (l.getD (atI l i).toNat z37).f5 then (if h ≤ (l.getD (atI l i).toNat z37).f4 then (l.eraseIdx (atI l i).toNat, true) else (l.set (atI l i).toNat ⟨(l.getD (atI l i).toNat z37).f0, (l.getD (atI l i).toNat z37).f1, (l.getD (atI l i).toNat z37).f2, (l.getD (atI l i).toNat z37).f3, (l.getD (atI l i).toNat z37).f4, h⟩, true)) else ([], false)
theorem cancelR_len (l : List S37) (i h : Int) : (cancelR l i h).1.length ≤ 12 := by
  unfold cancelR
  by_cases hc : consB l = true ∧ ¬ atI l i < 0 ∧ ¬ h ≥ (l.getD (atI l i).toNat z37).f5
  · have hl := consB_len hc.1
    rw [if_pos hc]
    by_cases h2 : h ≤ (l.getD (atI l i).toNat z37).f4
    · rw [if_pos h2]
      exact Nat.le_trans (erase_len l _) hl
    · rw [if_neg h2]
      show (l.set _ _).length ≤ 12
      rw [List.length_set]; exact hl
  · rw [if_neg hc]; exact Nat.zero_le _
theorem ev_specCancel (l : List S37) (hl : l.length ≤ 1048576) (i t : Int) : Ev (fun k => spec_CancelWarning.f k l i t) (cancelR l i t) := by
  unfold spec_CancelWarning.f cancelR
  have hz : ∀ q b, b = true → Ev (fun k => spec_CancelWarning.j0 k l t q b) (([] : List S37), false) := by
    rintro q b rfl
    refine Ev.unr ?_
    simp only [spec_CancelWarning.j0]
    exact Ev.congr (fun k => if_pos trivial) (Ev.now _)
  refine Ev.bind (f := fun k t => _) (ev_find l (by omega) i) ?_
  refine Ev.bind (f := fun k t => _) (ev_l14List l) ?_
  by_cases h : consB l = true
  · refine Ev.congr (fun k => if_pos h) ?_
    rcases atI_cases l i with e | ⟨q, hq, e⟩
    · rw [if_neg (by rw [e]; omega), e]
      exact Ev.congr (fun k => if_pos (by omega)) (hz _ _ rfl)
    · rw [e]
      refine Ev.congr (fun k => if_neg (by omega)) ?_
      refine Ev.congr (fun k => if_pos (by omega)) ?_
      refine Ev.congr (fun k => if_pos (by omega)) ?_
      rw [rdW, Int.toNat_natCast]
      by_cases h2 : t ≥ (l.getD q z37).f5
      · rw [if_neg (fun c => c.2.2 h2)]
        exact hz _ _ (decide_eq_true h2)
      · rw [if_pos ⟨h, by omega, h2⟩, decide_eq_false h2]
        refine Ev.unr ?_
        simp only [spec_CancelWarning.j0]
        refine Ev.congr (fun k => if_neg (by simp)) ?_
        refine Ev.congr (fun k => if_pos (by omega)) ?_
        refine Ev.congr (fun k => if_pos (by omega)) ?_
        rw [rdW]
        by_cases h3 : t ≤ (l.getD q z37).f4
        · refine Ev.congr (fun k => if_pos h3) ?_
          rw [if_pos h3]
          refine Ev.eq_now fun k => ?_
          rw [show wrap64 ((q : Int) + 1) = ((q + 1 : Nat) : Int) from by unfold wrap64; omega]
          simp only [Option.bind_some, List.nil_append, List.length_nil, Nat.zero_add, Int.toNat_natCast]
          rw [if_pos (by omega), if_pos (by rw [List.length_take]; omega), if_pos (by omega), if_pos (by omega), if_pos (by rw [List.length_take, List.length_drop]; omega), erase_eq]
        · refine Ev.congr (fun k => if_neg h3) ?_
          rw [if_neg h3]
          refine Ev.bind (f := fun k t => _) (Ev.eq_now fun k => with_f l (by omega) q hq ⟨(l.getD q z37).f0, (l.getD q z37).f1, (l.getD q z37).f2, (l.getD q z37).f3, (l.getD q z37).f4, t⟩) ?_
          refine Ev.bind (f := fun k t => _) (ev_specChecked _) ?_
          unfold chkR
          rw [if_pos (cons_short h hq t (by omega) (by omega))]
          exact Ev.now _
  · rw [if_neg (fun c => h c.1)]
    exact Ev.congr (fun k => if_neg h) (hz _ _ rfl)
theorem ev_implCancel (l : List S37) (hl : l.length ≤ 1048576) (i t : Int) : Ev (fun k => impl_CancelWarning.f k l i t) (cancelR l i t) := by
  unfold impl_CancelWarning.f cancelR
  have hz : ∀ q b, b = true → Ev (fun k => impl_CancelWarning.j0 k l t q b) (([] : List S37), false) := by
    rintro q b rfl
    refine Ev.unr ?_
    simp only [impl_CancelWarning.j0]
    exact Ev.congr (fun k => if_pos trivial) (Ev.now _)
  refine Ev.bind (f := fun k t => _) (ev_at l (by omega) i) ?_
  by_cases h : consB l = true
  · rw [if_pos h]
    rcases atI_cases l i with e | ⟨q, hq, e⟩
    · rw [if_neg (by rw [e]; omega), e]
      exact Ev.congr (fun k => if_pos (by omega)) (hz _ _ rfl)
    · rw [e]
      refine Ev.congr (fun k => if_neg (by omega)) ?_
      refine Ev.congr (fun k => if_pos (by omega)) ?_
      refine Ev.congr (fun k => if_pos (by omega)) ?_
      rw [rdW, Int.toNat_natCast]
      by_cases h2 : t ≥ (l.getD q z37).f5
      · rw [if_neg (fun c => c.2.2 h2)]
        exact hz _ _ (decide_eq_true h2)
      · rw [if_pos ⟨h, by omega, h2⟩, decide_eq_false h2]
        refine Ev.unr ?_
        simp only [impl_CancelWarning.j0]
        refine Ev.congr (fun k => if_neg (by simp)) ?_
        refine Ev.bind (f := fun k t => _) (Ev.eq_now fun k => clone_f l (by omega)) ?_
        refine Ev.congr (fun k => if_pos (by omega)) ?_
        refine Ev.congr (fun k => if_pos (by omega)) ?_
        rw [rdW]
        by_cases h3 : t ≤ (l.getD q z37).f4
        · refine Ev.congr (fun k => if_pos h3) ?_
          rw [if_pos h3]
          refine Ev.bind (f := fun k t => _) (Ev.eq_now fun k => delete_f l q hq (by omega)) ?_
          exact Ev.now _
        · refine Ev.congr (fun k => if_neg h3) ?_
          rw [if_neg h3]
          refine Ev.congr (fun k => if_pos (by omega)) ?_
          exact Ev.now _
  · rw [if_neg h, if_neg (fun c => h c.1)]
    exact Ev.congr (fun k => if_pos (by omega)) (hz _ _ rfl)
/-! ChangeLevel -/
def shortAt (l : List S37) (q : Nat) (h : Int) : List S37 := l.set q ⟨(l.getD q z37).f0, (l.getD q z37).f1, (l.getD q z37).f2, (l.getD q z37).f3, (l.getD q z37).f4, h⟩
def nextAt (l : List S37) (q : Nat) (v h : Int) : S37 := ⟨(l.getD q z37).f0, (l.getD q z37).f1, v, (l.getD q z37).f3, h, (l.getD q z37).f5⟩
def levelAt (l : List S37) (q : Nat) (v : Int) : List S37 := l.set q ⟨(l.getD q z37).f0, (l.getD q z37).f1, v, (l.getD q z37).f3, (l.getD q z37).f4, (l.getD q z37).f5⟩
def changeLR (l : List S37) (i v h : Int) : List S37 × Int × Bool := if consB l = true ∧ ¬ atI l i < 0 ∧ ¬ (l.getD (atI l i).toNat z37).f2 = v ∧ (1 ≤ v ∧ v ≤ 3) ∧ ¬ h ≥ (l.getD (atI l i).toNat z37).f5 then (if h ≤ (l.getD (atI l i).toNat z37).f4 then (levelAt l (atI l i).toNat v, i, true) else chkI (addW (shortAt l (atI l i).toNat h) (nextAt l (atI l i).toNat v h)) (idN (shortAt l (atI l i).toNat h))) else ([], 0, false)
theorem changeLR_len (l : List S37) (i v h : Int) : (changeLR l i v h).1.length ≤ 12 := by
  unfold changeLR
  by_cases hc : consB l = true ∧ ¬ atI l i < 0 ∧ ¬ (l.getD (atI l i).toNat z37).f2 = v ∧ (1 ≤ v ∧ v ≤ 3) ∧ ¬ h ≥ (l.getD (atI l i).toNat z37).f5
  · have hl := consB_len hc.1
    rw [if_pos hc]
    by_cases h2 : h ≤ (l.getD (atI l i).toNat z37).f4
    · rw [if_pos h2]
      show (l.set _ _).length ≤ 12
      rw [List.length_set]; exact hl
    · rw [if_neg h2]
      exact chkI_len _ _
  · rw [if_neg hc]; exact Nat.zero_le _
theorem add_bad (m : List S37) (y : S37) (h : ¬ (1 ≤ y.f2 ∧ y.f2 ≤ 3)) : consB (addW m y) = false := by
  refine cons_bad (q := m.length) (by rw [addW_length]; omega) ?_
  unfold addW
  rw [List.getD_eq_getElem?_getD, List.getElem?_append_right (Nat.le_refl _), Nat.sub_self]
  show okW ⟨idN m, y.f1, y.f2, y.f3, y.f4, y.f5⟩ = false
  unfold okW
  exact decide_eq_false (fun hh => h (by dsimp only at hh; omega))
theorem ev_specChange (l : List S37) (hl : l.length ≤ 1048576) (i v t : Int) : Ev (fun k => spec_ChangeLevel.f k l i v t) (changeLR l i v t) := by
  unfold spec_ChangeLevel.f changeLR
  have hz : ∀ q b, b = true → Ev (fun k => spec_ChangeLevel.j0 k l i v t q b) (([] : List S37), 0, false) := by
    rintro q b rfl
    refine Ev.unr ?_
    simp only [spec_ChangeLevel.j0]
    exact Ev.congr (fun k => if_pos trivial) (Ev.now _)
  refine Ev.bind (f := fun k t => _) (ev_find l (by omega) i) ?_
  refine Ev.bind (f := fun k t => _) (ev_l14List l) ?_
  by_cases h : consB l = true
  · refine Ev.congr (fun k => if_pos h) ?_
    rcases atI_cases l i with e | ⟨q, hq, e⟩
    · rw [if_neg (by rw [e]; omega), e]
      exact Ev.congr (fun k => if_pos (by omega)) (hz _ _ rfl)
    · rw [e]
      refine Ev.congr (fun k => if_neg (by omega)) ?_
      refine Ev.congr (fun k => if_pos (by omega)) ?_
      refine Ev.congr (fun k => if_pos (by omega)) ?_
      rw [rdW, Int.toNat_natCast]
      by_cases h1 : (l.getD q z37).f2 = v
      · rw [if_neg (fun c => c.2.2.1 h1)]
        exact Ev.congr (fun k => if_pos h1) (hz _ _ rfl)
      · refine Ev.congr (fun k => if_neg h1) ?_
        by_cases h2 : t ≥ (l.getD q z37).f5
        · rw [if_neg (fun c => c.2.2.2.2 h2)]
          exact hz _ _ (decide_eq_true h2)
        · rw [decide_eq_false h2]
          refine Ev.unr ?_
          simp only [spec_ChangeLevel.j0]
          refine Ev.congr (fun k => if_neg (by simp)) ?_
          refine Ev.congr (fun k => if_pos (by omega)) ?_
          refine Ev.congr (fun k => if_pos (by omega)) ?_
          rw [rdW]
          by_cases h3 : t ≤ (l.getD q z37).f4
          · refine Ev.congr (fun k => if_pos h3) ?_
            refine Ev.bind (f := fun k t => _) (Ev.eq_now fun k => with_f l (by omega) q hq ⟨(l.getD q z37).f0, (l.getD q z37).f1, v, (l.getD q z37).f3, (l.getD q z37).f4, (l.getD q z37).f5⟩) ?_
            refine Ev.bind (f := fun k t => _) (ev_l14List _) ?_
            by_cases h4 : 1 ≤ v ∧ v ≤ 3
            · refine Ev.congr (fun k => if_pos ((cons_level h hq v).trans (decide_eq_true h4))) ?_
              rw [if_pos ⟨h, by omega, h1, h4, h2⟩, if_pos h3]
              exact Ev.now _
            · refine Ev.congr (fun k => if_neg (by rw [cons_level h hq v, decide_eq_false h4]; simp)) ?_
              rw [if_neg (fun c => h4 c.2.2.2.1)]
              exact Ev.now _
          · refine Ev.congr (fun k => if_neg h3) ?_
            refine Ev.bind (f := fun k t => _) (Ev.eq_now fun k => with_f l (by omega) q hq ⟨(l.getD q z37).f0, (l.getD q z37).f1, (l.getD q z37).f2, (l.getD q z37).f3, (l.getD q z37).f4, t⟩) ?_
            refine Ev.bind (f := fun k t => _) (Ev.eq_now fun k => issue_f (shortAt l q t) (by unfold shortAt; rw [List.length_set]; omega) (nextAt l q v t)) ?_
            refine Ev.bind (f := fun k t => _) (ev_l14List _) ?_
            by_cases h4 : 1 ≤ v ∧ v ≤ 3
            · by_cases h5 : consB (addW (shortAt l q t) (nextAt l q v t)) = true
              · refine Ev.congr (fun k => if_pos h5) ?_
                rw [if_pos ⟨h, by omega, h1, h4, h2⟩, if_neg h3]
                unfold chkI
                rw [if_pos h5]; exact Ev.now _
              · refine Ev.congr (fun k => if_neg h5) ?_
                rw [if_pos ⟨h, by omega, h1, h4, h2⟩, if_neg h3]
                unfold chkI
                rw [if_neg h5]; exact Ev.now _
            · refine Ev.congr (fun k => if_neg (by rw [add_bad (shortAt l q t) (nextAt l q v t) h4]; simp)) ?_
              rw [if_neg (fun c => h4 c.2.2.2.1)]
              exact Ev.now _
  · rw [if_neg (fun c => h c.1)]
    exact Ev.congr (fun k => if_neg h) (hz _ _ rfl)
theorem ev_implChange (l : List S37) (hl : l.length ≤ 1048576) (i v t : Int) : Ev (fun k => impl_ChangeLevel.f k l i v t) (changeLR l i v t) := by
  unfold impl_ChangeLevel.f changeLR
  have hz : ∀ q b, b = true → Ev (fun k => impl_ChangeLevel.j0 k l i v t q b) (([] : List S37), 0, false) := by
    rintro q b rfl
    refine Ev.unr ?_
    simp only [impl_ChangeLevel.j0]
    exact Ev.congr (fun k => if_pos trivial) (Ev.now _)
  refine Ev.bind (f := fun k t => _) (ev_at l (by omega) i) ?_
  by_cases h : consB l = true
  · rw [if_pos h]
    rcases atI_cases l i with e | ⟨q, hq, e⟩
    · rw [if_neg (by rw [e]; omega), e]
      exact Ev.congr (fun k => if_pos (by omega)) (hz _ _ rfl)
    · rw [e]
      refine Ev.congr (fun k => if_neg (by omega)) ?_
      refine Ev.congr (fun k => if_pos (by omega)) ?_
      refine Ev.congr (fun k => if_pos (by omega)) ?_
      rw [rdW, Int.toNat_natCast]
      by_cases h1 : (l.getD q z37).f2 = v
      · rw [if_neg (fun c => c.2.2.1 h1)]
        exact Ev.congr (fun k => if_pos h1.symm) (hz _ _ rfl)
      · refine Ev.congr (fun k => if_neg (fun e => h1 e.symm)) ?_
        refine Ev.bind (f := fun k t => _) (Ev.eq_now fun k => within_f _ _ _) ?_
        by_cases h4 : 1 ≤ v ∧ v ≤ 3
        · refine Ev.congr (fun k => if_pos (by simpa using h4)) ?_
          by_cases h2 : t ≥ (l.getD q z37).f5
          · rw [if_neg (fun c => c.2.2.2.2 h2)]
            exact hz _ _ (decide_eq_true h2)
          · rw [decide_eq_false h2]
            refine Ev.unr ?_
            simp only [impl_ChangeLevel.j0]
            refine Ev.congr (fun k => if_neg (by simp)) ?_
            refine Ev.bind (f := fun k t => _) (Ev.eq_now fun k => clone_f l (by omega)) ?_
            refine Ev.congr (fun k => if_pos (by omega)) ?_
            refine Ev.congr (fun k => if_pos (by omega)) ?_
            rw [rdW]
            by_cases h3 : t ≤ (l.getD q z37).f4
            · refine Ev.congr (fun k => if_pos h3) ?_
              refine Ev.congr (fun k => if_pos (by omega)) ?_
              rw [if_pos ⟨h, by omega, h1, h4, h2⟩, if_pos h3]
              exact Ev.now _
            · refine Ev.congr (fun k => if_neg h3) ?_
              refine Ev.congr (fun k => if_pos (by omega)) ?_
              rw [if_pos ⟨h, by omega, h1, h4, h2⟩, if_neg h3]
              refine Ev.bind (f := fun k t => _) (ev_issued (shortAt l q t) (by unfold shortAt; rw [List.length_set]; omega) (nextAt l q v t)) ?_
              exact Ev.now _
        · refine Ev.congr (fun k => if_neg (by simpa using h4)) ?_
          rw [if_neg (fun c => h4 c.2.2.2.1)]
          exact hz _ _ rfl
  · rw [if_neg h, if_neg (fun c => h c.1)]
    exact Ev.congr (fun k => if_pos (by omega)) (hz _ _ rfl)
theorem chkI_ok {l : List S37} {i : Int} (h : (chkI l i).2.2 = true) : chkI l i = (l, i, true) ∧ consB l = true := by
  unfold chkI at h ⊢
  by_cases c : consB l = true
  · rw [if_pos c]; exact ⟨rfl, c⟩
  · rw [if_neg c] at h; cases h
theorem chkR_ok {l : List S37} (h : (chkR l).2 = true) : chkR l = (l, true) ∧ consB l = true := by
  unfold chkR at h ⊢
  by_cases c : consB l = true
  · rw [if_pos c]; exact ⟨rfl, c⟩
  · rw [if_neg c] at h; cases h
theorem issue_ok {l : List S37} {x : S37} (h : (issueR l x).2.2 = true) : consB l = true ∧ consB (addW l x) = true ∧ issueR l x = (addW l x, idN l, true) := by
  unfold issueR at h ⊢
  by_cases c : consB l = true
  · rw [if_pos c] at h ⊢
    obtain ⟨h1, h2⟩ := chkI_ok h
    exact ⟨c, h2, h1⟩
  · rw [if_neg c] at h; cases h
theorem atI_lt {l : List S37} {i : Int} (h : ¬ atI l i < 0) : (atI l i).toNat < l.length := by
  rcases atI_cases l i with e | ⟨q, hq, e⟩
  · rw [e] at h; omega
  · rw [e, Int.toNat_natCast]; exact hq
theorem extend_ok {l : List S37} {i t : Int} (h : (extendR l i t).2 = true) : consB (extendR l i t).1 = true ∧ (extendR l i t).1.length = l.length := by
  unfold extendR at h ⊢
  by_cases c : consB l = true ∧ ¬ atI l i < 0 ∧ ¬ t ≤ (l.getD (atI l i).toNat z37).f5
  · rw [if_pos c] at h ⊢
    obtain ⟨h1, h2⟩ := chkR_ok h
    rw [h1]
    exact ⟨h2, by unfold setTo; rw [List.length_set]⟩
  · rw [if_neg c] at h; cases h
theorem cancel_ok {l : List S37} {i t : Int} (h : (cancelR l i t).2 = true) : consB (cancelR l i t).1 = true ∧ (cancelR l i t).1.length ≤ l.length := by
  unfold cancelR at h ⊢
  by_cases c : consB l = true ∧ ¬ atI l i < 0 ∧ ¬ t ≥ (l.getD (atI l i).toNat z37).f5
  · rw [if_pos c] at h ⊢
    have hq := atI_lt c.2.1
    by_cases d : t ≤ (l.getD (atI l i).toNat z37).f4
    · rw [if_pos d]
      exact ⟨cons_erase c.1 hq, by rw [List.length_eraseIdx, if_pos hq]; omega⟩
    · rw [if_neg d]
      exact ⟨cons_short c.1 hq t (by omega) (by omega), by rw [List.length_set]; exact Nat.le_refl _⟩
  · rw [if_neg c] at h; cases h
theorem change_ok {l : List S37} {i v t : Int} (h : (changeLR l i v t).2.2 = true) : consB (changeLR l i v t).1 = true := by
  unfold changeLR at h ⊢
  by_cases c : consB l = true ∧ ¬ atI l i < 0 ∧ ¬ (l.getD (atI l i).toNat z37).f2 = v ∧ (1 ≤ v ∧ v ≤ 3) ∧ ¬ t ≥ (l.getD (atI l i).toNat z37).f5
  · rw [if_pos c] at h ⊢
    have hq := atI_lt c.2.1
    by_cases d : t ≤ (l.getD (atI l i).toNat z37).f4
    · rw [if_pos d]
      show consB (levelAt l _ v) = true
      unfold levelAt
      rw [cons_level c.1 hq v]
      exact decide_eq_true c.2.2.2.1
    · rw [if_neg d] at h ⊢
      obtain ⟨h1, h2⟩ := chkI_ok h
      rw [h1]
      exact h2
  · rw [if_neg c] at h; cases h
end Go.Proofs.Ytfemneoahkglmaa.Q
