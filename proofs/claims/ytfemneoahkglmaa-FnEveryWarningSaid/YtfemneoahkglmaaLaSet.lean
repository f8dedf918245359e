/- A list stays consistent when a warning is set to one that meets no more, or when one is taken out. -/
import Derived.Test.YtfemneoahkglmaaLaIssue
import Derived.Test.YtfemneoahkglmaaLaLevel
namespace Go.Proofs.Ytfemneoahkglmaa.Q
open Go.RowKit Go.Proofs.YtfemneoahkglmaaW.PrintWords Go.Proofs.Ytfemneoahkglmaa.Gen
set_option linter.unusedVariables false
set_option linter.unusedSimpArgs false
theorem consB_iff (l : List S37) : consB l = true ↔ l.length ≤ 12 ∧ ∀ j, j < l.length → okW (l.getD j z37) = true ∧ (j = 0 ∨ (l.getD (j - 1) z37).f0 < (l.getD j z37).f0) ∧ ∀ i, i < j → meetB (l.getD j z37) (l.getD i z37) = false := by
  unfold consB
  simp only [Bool.and_eq_true, decide_eq_true_eq]
  refine and_congr_right fun _ => forall_congr' fun j => forall_congr' fun hj => ?_
  unfold stepB clearB
  rw [any_take l _ j (by omega)]
  simp only [Bool.and_eq_true, Bool.or_eq_true, decide_eq_true_eq, beq_iff_eq, Bool.not_eq_true', decide_eq_false_iff_not, not_exists, not_and, Bool.not_eq_true, and_assoc]
theorem cons_set {l : List S37} (hc : consB l = true) {q : Nat} (hq : q < l.length) {y : S37} (hy : okW y = true) (hid : y.f0 = (l.getD q z37).f0) (hm : ∀ x, meetB y x = true → meetB (l.getD q z37) x = true) : consB (l.set q y) = true := by
  rw [consB_iff] at hc ⊢
  rw [List.length_set]
  refine ⟨hc.1, fun j hj => ?_⟩
  obtain ⟨h1, h2, h3⟩ := hc.2 j hj
  have no : ∀ x, meetB (l.getD q z37) x = false → meetB y x = false := fun x hx => by
    rw [Bool.eq_false_iff]; intro e; rw [hm x e] at hx; cases hx
  simp only [getD_set l _ _ hq]
  by_cases e : j = q
  · subst e
    refine ⟨by rw [if_pos rfl]; exact hy, ?_, fun i hi => ?_⟩
    · rcases h2 with h | h
      · exact .inl h
      · by_cases e1 : j - 1 = j
        · exact .inl (by omega)
        · right; rw [if_neg e1, if_pos rfl, hid]; exact h
    · rw [if_pos rfl, if_neg (by omega)]
      exact no _ (h3 i hi)
  · refine ⟨by rw [if_neg e]; exact h1, ?_, fun i hi => ?_⟩
    · rcases h2 with h | h
      · exact .inl h
      · right
        rw [if_neg e]
        by_cases e1 : j - 1 = q
        · rw [if_pos e1, hid, ← e1]; exact h
        · rw [if_neg e1]; exact h
    · rw [if_neg e]
      by_cases e1 : i = q
      · rw [if_pos e1, meetB_comm]
        refine no _ ?_
        rw [meetB_comm, ← e1]
        exact h3 i hi
      · rw [if_neg e1]; exact h3 i hi
theorem cons_at {l : List S37} (hc : consB l = true) {q : Nat} (hq : q < l.length) : okW (l.getD q z37) = true := ((consB_iff l).1 hc).2 q hq |>.1
theorem cons_bad {l : List S37} {q : Nat} (hq : q < l.length) (h : okW (l.getD q z37) = false) : consB l = false := by
  rw [Bool.eq_false_iff]
  intro hc
  rw [cons_at hc hq] at h
  cases h
/-- A shorter warning meets no more than the longer one. -/
theorem cons_short {l : List S37} (hc : consB l = true) {q : Nat} (hq : q < l.length) (t : Int) (h1 : (l.getD q z37).f4 < t) (h2 : t ≤ (l.getD q z37).f5) : consB (l.set q ⟨(l.getD q z37).f0, (l.getD q z37).f1, (l.getD q z37).f2, (l.getD q z37).f3, (l.getD q z37).f4, t⟩) = true := by
  have ho := (okW_iff _).1 (cons_at hc hq)
  refine cons_set hc hq ?_ rfl ?_
  · rw [okW_iff]; dsimp only; omega
  · intro x hx
    unfold meetB at hx ⊢
    simp only [Bool.and_eq_true, decide_eq_true_eq] at hx ⊢
    omega
theorem ok_level (x : S37) (v : Int) (hx : okW x = true) : okW ⟨x.f0, x.f1, v, x.f3, x.f4, x.f5⟩ = decide (1 ≤ v ∧ v ≤ 3) := by
  have ho := (okW_iff _).1 hx
  unfold okW
  dsimp only
  apply decide_eq_decide.2
  omega
theorem cons_level {l : List S37} (hc : consB l = true) {q : Nat} (hq : q < l.length) (v : Int) : consB (l.set q ⟨(l.getD q z37).f0, (l.getD q z37).f1, v, (l.getD q z37).f3, (l.getD q z37).f4, (l.getD q z37).f5⟩) = decide (1 ≤ v ∧ v ≤ 3) := by
  by_cases h : 1 ≤ v ∧ v ≤ 3
  · rw [decide_eq_true h]
    refine cons_set hc hq ?_ rfl ?_
    · rw [ok_level _ v (cons_at hc hq), decide_eq_true h]
    · intro x hx; exact hx
  · rw [decide_eq_false h]
    refine cons_bad (q := q) (by rw [List.length_set]; exact hq) ?_
    rw [getD_set l q q hq, if_pos rfl, ok_level _ v (cons_at hc hq), decide_eq_false h]
end Go.Proofs.Ytfemneoahkglmaa.Q
