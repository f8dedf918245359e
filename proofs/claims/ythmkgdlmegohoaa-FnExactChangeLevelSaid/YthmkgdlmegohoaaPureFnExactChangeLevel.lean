/- The two programs change a level alike: for every list, number, level and hour. -/
import Derived.Test.YthmkgdlmegohoaaQf9
import Derived.Test.YthmkgdlmegohoaaLaIssue
import Derived.Test.YthmkgdlmegohoaaLaSet
import Derived.Test.YthmkgdlmegohoaaLaMarksW
namespace Go.Proofs.Ythmkgdlmegohoaa.Q
open Go.RowKit Go.Proofs.YthmkgdlmegohoaaW.PrintWords Go.Proofs.Ythmkgdlmegohoaa.Gen
set_option linter.unusedVariables false
set_option linter.unusedSimpArgs false
def shortAt (l : List S30) (q : Nat) (h : Int) : List S30 := l.set q ⟨(l.getD q z30).f0, (l.getD q z30).f1, (l.getD q z30).f2, (l.getD q z30).f3, (l.getD q z30).f4, h⟩
def nextAt (l : List S30) (q : Nat) (v h : Int) : S30 := ⟨(l.getD q z30).f0, (l.getD q z30).f1, v, (l.getD q z30).f3, h, (l.getD q z30).f5⟩
def levelAt (l : List S30) (q : Nat) (v : Int) : List S30 := l.set q ⟨(l.getD q z30).f0, (l.getD q z30).f1, v, (l.getD q z30).f3, (l.getD q z30).f4, (l.getD q z30).f5⟩
def changeLR (l : List S30) (i v h : Int) : List S30 × Int × Bool := if consB l = true ∧ ¬ atI l i < 0 ∧ ¬ (l.getD (atI l i).toNat z30).f2 = v ∧ (1 ≤ v ∧ v ≤ 3) ∧ ¬ h ≥ (l.getD (atI l i).toNat z30).f5 then (if h ≤ (l.getD (atI l i).toNat z30).f4 then (levelAt l (atI l i).toNat v, i, true) else chkI (addW (shortAt l (atI l i).toNat h) (nextAt l (atI l i).toNat v h)) (idN (shortAt l (atI l i).toNat h))) else ([], 0, false)
theorem changeLR_len (l : List S30) (i v h : Int) : (changeLR l i v h).1.length ≤ 12 := by
  unfold changeLR
  by_cases hc : consB l = true ∧ ¬ atI l i < 0 ∧ ¬ (l.getD (atI l i).toNat z30).f2 = v ∧ (1 ≤ v ∧ v ≤ 3) ∧ ¬ h ≥ (l.getD (atI l i).toNat z30).f5
  · have hl := consB_len hc.1
    rw [if_pos hc]
    by_cases h2 : h ≤ (l.getD (atI l i).toNat z30).f4
    · rw [if_pos h2]
      show (l.set _ _).length ≤ 12
      rw [List.length_set]; exact hl
    · rw [if_neg h2]
      exact chkI_len _ _
  · rw [if_neg hc]; exact Nat.zero_le _
theorem add_bad (m : List S30) (y : S30) (h : ¬ (1 ≤ y.f2 ∧ y.f2 ≤ 3)) : consB (addW m y) = false := by
  refine cons_bad (q := m.length) (by rw [addW_length]; omega) ?_
  unfold addW
  rw [List.getD_eq_getElem?_getD, List.getElem?_append_right (Nat.le_refl _), Nat.sub_self]
  show okW ⟨idN m, y.f1, y.f2, y.f3, y.f4, y.f5⟩ = false
  unfold okW
  exact decide_eq_false (fun hh => h (by dsimp only at hh; omega))
theorem ev_specChange (l : List S30) (hl : l.length ≤ 1048576) (i v t : Int) : Ev (fun k => spec_ChangeLevel.f k l i v t) (changeLR l i v t) := by
  unfold spec_ChangeLevel.f changeLR
  have hz : ∀ q b, b = true → Ev (fun k => spec_ChangeLevel.j0 k l i v t q b) (([] : List S30), 0, false) := by
    rintro q b rfl
    refine Ev.unr ?_
    simp only [spec_ChangeLevel.j0]
    exact Ev.congr (fun k => if_pos trivial) (Ev.now _)
  refine Ev.bind (f := fun k t => _) (ev_find l (by omega) i) ?_
  refine Ev.bind (f := fun k t => _) (ev_l14List l) ?_
  by_cases h : consB l = true
  · refine Ev.congr (fun k => if_pos h) ?_
    rcases atI_cases l i with e | ⟨q, hq, e⟩
    · rw [if_neg (by rw [e]; omega), e]
      exact Ev.congr (fun k => if_pos (by omega)) (hz _ _ rfl)
    · rw [e]
      refine Ev.congr (fun k => if_neg (by omega)) ?_
      refine Ev.congr (fun k => if_pos (by omega)) ?_
      refine Ev.congr (fun k => if_pos (by omega)) ?_
      rw [rdW, Int.toNat_natCast]
      by_cases h1 : (l.getD q z30).f2 = v
      · rw [if_neg (fun c => c.2.2.1 h1)]
        exact Ev.congr (fun k => if_pos h1) (hz _ _ rfl)
      · refine Ev.congr (fun k => if_neg h1) ?_
        by_cases h2 : t ≥ (l.getD q z30).f5
        · rw [if_neg (fun c => c.2.2.2.2 h2)]
          exact hz _ _ (decide_eq_true h2)
        · rw [decide_eq_false h2]
          refine Ev.unr ?_
          simp only [spec_ChangeLevel.j0]
          refine Ev.congr (fun k => if_neg (by simp)) ?_
          refine Ev.congr (fun k => if_pos (by omega)) ?_
          refine Ev.congr (fun k => if_pos (by omega)) ?_
          rw [rdW]
          by_cases h3 : t ≤ (l.getD q z30).f4
          · refine Ev.congr (fun k => if_pos h3) ?_
            refine Ev.bind (f := fun k t => _) (Ev.eq_now fun k => with_f l (by omega) q hq ⟨(l.getD q z30).f0, (l.getD q z30).f1, v, (l.getD q z30).f3, (l.getD q z30).f4, (l.getD q z30).f5⟩) ?_
            refine Ev.bind (f := fun k t => _) (ev_l14List _) ?_
            by_cases h4 : 1 ≤ v ∧ v ≤ 3
            · refine Ev.congr (fun k => if_pos ((cons_level h hq v).trans (decide_eq_true h4))) ?_
              rw [if_pos ⟨h, by omega, h1, h4, h2⟩, if_pos h3]
              exact Ev.now _
            · refine Ev.congr (fun k => if_neg (by rw [cons_level h hq v, decide_eq_false h4]; simp)) ?_
              rw [if_neg (fun c => h4 c.2.2.2.1)]
              exact Ev.now _
          · refine Ev.congr (fun k => if_neg h3) ?_
            refine Ev.bind (f := fun k t => _) (Ev.eq_now fun k => with_f l (by omega) q hq ⟨(l.getD q z30).f0, (l.getD q z30).f1, (l.getD q z30).f2, (l.getD q z30).f3, (l.getD q z30).f4, t⟩) ?_
            refine Ev.bind (f := fun k t => _) (Ev.eq_now fun k => issue_f (shortAt l q t) (by unfold shortAt; rw [List.length_set]; omega) (nextAt l q v t)) ?_
            refine Ev.bind (f := fun k t => _) (ev_l14List _) ?_
            by_cases h4 : 1 ≤ v ∧ v ≤ 3
            · by_cases h5 : consB (addW (shortAt l q t) (nextAt l q v t)) = true
              · refine Ev.congr (fun k => if_pos h5) ?_
                rw [if_pos ⟨h, by omega, h1, h4, h2⟩, if_neg h3]
                unfold chkI
                rw [if_pos h5]; exact Ev.now _
              · refine Ev.congr (fun k => if_neg h5) ?_
                rw [if_pos ⟨h, by omega, h1, h4, h2⟩, if_neg h3]
                unfold chkI
                rw [if_neg h5]; exact Ev.now _
            · refine Ev.congr (fun k => if_neg (by rw [add_bad (shortAt l q t) (nextAt l q v t) h4]; simp)) ?_
              rw [if_neg (fun c => h4 c.2.2.2.1)]
              exact Ev.now _
  · rw [if_neg (fun c => h c.1)]
    exact Ev.congr (fun k => if_neg h) (hz _ _ rfl)
theorem ev_implChange (l : List S30) (hl : l.length ≤ 1048576) (i v t : Int) : Ev (fun k => impl_ChangeLevel.f k l i v t) (changeLR l i v t) := by
  unfold impl_ChangeLevel.f changeLR
  have hz : ∀ q b, b = true → Ev (fun k => impl_ChangeLevel.j0 k l i v t q b) (([] : List S30), 0, false) := by
    rintro q b rfl
    refine Ev.unr ?_
    simp only [impl_ChangeLevel.j0]
    exact Ev.congr (fun k => if_pos trivial) (Ev.now _)
  refine Ev.bind (f := fun k t => _) (ev_at l (by omega) i) ?_
  by_cases h : consB l = true
  · rw [if_pos h]
    rcases atI_cases l i with e | ⟨q, hq, e⟩
    · rw [if_neg (by rw [e]; omega), e]
      exact Ev.congr (fun k => if_pos (by omega)) (hz _ _ rfl)
    · rw [e]
      refine Ev.congr (fun k => if_neg (by omega)) ?_
      refine Ev.congr (fun k => if_pos (by omega)) ?_
      refine Ev.congr (fun k => if_pos (by omega)) ?_
      rw [rdW, Int.toNat_natCast]
      by_cases h1 : (l.getD q z30).f2 = v
      · rw [if_neg (fun c => c.2.2.1 h1)]
        exact Ev.congr (fun k => if_pos h1.symm) (hz _ _ rfl)
      · refine Ev.congr (fun k => if_neg (fun e => h1 e.symm)) ?_
        refine Ev.bind (f := fun k t => _) (Ev.eq_now fun k => within_f _ _ _) ?_
        by_cases h4 : 1 ≤ v ∧ v ≤ 3
        · refine Ev.congr (fun k => if_pos (by simpa using h4)) ?_
          by_cases h2 : t ≥ (l.getD q z30).f5
          · rw [if_neg (fun c => c.2.2.2.2 h2)]
            exact hz _ _ (decide_eq_true h2)
          · rw [decide_eq_false h2]
            refine Ev.unr ?_
            simp only [impl_ChangeLevel.j0]
            refine Ev.congr (fun k => if_neg (by simp)) ?_
            refine Ev.bind (f := fun k t => _) (Ev.eq_now fun k => clone_f l (by omega)) ?_
            refine Ev.congr (fun k => if_pos (by omega)) ?_
            refine Ev.congr (fun k => if_pos (by omega)) ?_
            rw [rdW]
            by_cases h3 : t ≤ (l.getD q z30).f4
            · refine Ev.congr (fun k => if_pos h3) ?_
              refine Ev.congr (fun k => if_pos (by omega)) ?_
              rw [if_pos ⟨h, by omega, h1, h4, h2⟩, if_pos h3]
              exact Ev.now _
            · refine Ev.congr (fun k => if_neg h3) ?_
              refine Ev.congr (fun k => if_pos (by omega)) ?_
              rw [if_pos ⟨h, by omega, h1, h4, h2⟩, if_neg h3]
              refine Ev.bind (f := fun k t => _) (ev_issued (shortAt l q t) (by unfold shortAt; rw [List.length_set]; omega) (nextAt l q v t)) ?_
              exact Ev.now _
        · refine Ev.congr (fun k => if_neg (by simpa using h4)) ?_
          rw [if_neg (fun c => h4 c.2.2.2.1)]
          exact hz _ _ rfl
  · rw [if_neg h, if_neg (fun c => h c.1)]
    exact Ev.congr (fun k => if_pos (by omega)) (hz _ _ rfl)
end Go.Proofs.Ythmkgdlmegohoaa.Q
set_option linter.unusedVariables false
set_option linter.unusedSimpArgs false
namespace Go.Proofs.Ythmkgdlmegohoaa.Pure
open Go.RowKit Go.Proofs.YthmkgdlmegohoaaW.PrintWords Go.Proofs.Ythmkgdlmegohoaa.Tells Go.Proofs.Ythmkgdlmegohoaa.Q Go.Proofs.Ythmkgdlmegohoaa.Gen
theorem FnExactChangeLevel : ∀ (l0 : List S24) (a1 : Int) (a2 : Int) (a3 : Int), l0.length ≤ maxLen → (∀ x ∈ l0, G24 x) → I64 a1 → I64 a2 → I64 a3 → ∃ k, laws_FnExactChangeLevel.f k l0 a1 a2 a3 = some true := by
  intro l a1 a2 a3 hl _ _ _ _
  refine Ev.rounds ?_
  unfold laws_FnExactChangeLevel.f
  refine Ev.bind (f := fun k t => if t < 0 then some true else _) (Ev.eq_now fun k => szW_f l 1048576 (by omega) hl) ?_
  by_cases h : (l.length : Int) ≤ 1048576
  · rw [if_pos h]
    refine Ev.congr (fun k => if_neg (by omega)) ?_
    have hc := ev_toW l (by omega)
    have hw : (wconv l).length ≤ 1048576 := by rw [wconv_length]; omega
    have hsp := ev_specChange (wconv l) (by omega) a1 a2 a3
    have him := ev_implChange (wconv l) (by omega) a1 a2 a3
    have hv := changeLR_len (wconv l) a1 a2 a3
    generalize changeLR (wconv l) a1 a2 a3 = v at hsp him hv
    refine Ev.bind (f := fun k t => _) hc ?_
    refine Ev.bind (f := fun k t => _) hsp ?_
    refine Ev.bind (f := fun k t => _) hc ?_
    refine Ev.bind (f := fun k t => _) him ?_
    refine Ev.bind (f := fun k t => _) (ev_eqVW _ (by omega)) ?_
    refine Ev.congr (fun k => if_pos (by first | rfl | trivial)) ?_
    refine Ev.congr (fun k => if_pos (by first | rfl | trivial)) (Ev.unr ?_)
    simp only [laws_FnExactChangeLevel.j0, bne_self_eq_false, Bool.false_eq_true, if_false]
    refine Ev.bind (f := fun k t => _) hc ?_
    refine Ev.bind (f := fun k t => _) (ev_eqVW _ (by omega)) ?_
    refine Ev.congr (fun k => if_pos (by first | rfl | trivial)) ?_
    refine Ev.bind (f := fun k t => _) (ev_markVW (wconv l) (by omega)) ?_
    refine Ev.congr (fun k => if_neg (by omega)) ?_
    refine Ev.bind (f := fun k t => _) (ev_eqVW _ (by omega)) ?_
    refine Ev.congr (fun k => if_pos (by first | rfl | trivial)) ?_
    refine Ev.congr (fun k => if_pos (by first | rfl | trivial)) (Ev.unr ?_)
    simp only [laws_FnExactChangeLevel.j1, bne_self_eq_false, Bool.false_eq_true, if_false]
    refine Ev.bind (f := fun k t => _) (ev_markVW _ (by omega)) ?_
    refine Ev.bind (f := fun k t => _) (ev_heldVW _ (by omega)) ?_
    refine Ev.congr (fun k => if_neg (by omega)) ?_
    refine Ev.congr (fun k => if_pos (by first | rfl | trivial)) ?_
    refine Ev.bind (f := fun k t => _) hc ?_
    refine Ev.bind (f := fun k t => _) him ?_
    refine Ev.bind (f := fun k t => _) (ev_eqVW _ (by omega)) ?_
    refine Ev.congr (fun k => if_pos (by first | rfl | trivial)) ?_
    refine Ev.congr (fun k => if_pos (by first | rfl | trivial)) (Ev.unr ?_)
    simp only [laws_FnExactChangeLevel.j2, bne_self_eq_false, Bool.false_eq_true, if_false]
    refine Ev.bind (f := fun k t => _) (ev_heldVW _ (by omega)) ?_
    refine Ev.congr (fun k => if_neg (by omega)) ?_
    refine Ev.congr (fun k => if_pos rfl) (Ev.now _)
  · rw [if_neg h]
    exact Ev.now _
end Go.Proofs.Ythmkgdlmegohoaa.Pure
