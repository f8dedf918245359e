/- Levels: of a topic and an area at an hour, and of an area: what both programs say. -/
import Derived.Test.YtfemneoahkglmaaQf34
import Derived.Test.YtfemneoahkglmaaLaW
namespace Go.Proofs.Ytfemneoahkglmaa.Q
open Go.RowKit Go.Proofs.YtfemneoahkglmaaW.PrintWords Go.Proofs.Ytfemneoahkglmaa.Gen
set_option linter.unusedVariables false
set_option linter.unusedSimpArgs false
theorem lvl_find (l : List S37) (t a h : Int) : lvl l t a h = (l.find? (holdsB t a h)).elim 0 (fun x => x.f2) := by
  unfold lvl
  rw [run_find l z37 (holdsB t a h) (fun x => x.f2) 0 l.length 0 (by omega), List.drop_zero]
theorem consB_ok {l : List S37} (h : consB l = true) : ∀ x ∈ l, okW x = true := by
  intro x hx
  obtain ⟨j, hj, rfl⟩ := List.getElem_of_mem hx
  unfold consB at h
  simp only [Bool.and_eq_true, decide_eq_true_eq] at h
  have h1 := (h.2 j hj).1
  unfold stepB at h1
  simp only [Bool.and_eq_true] at h1
  rw [← getD_lt l z37 j hj]
  exact h1.1
theorem consB_len {l : List S37} (h : consB l = true) : l.length ≤ 12 := by
  unfold consB at h
  simp only [Bool.and_eq_true, decide_eq_true_eq] at h
  exact h.1
theorem okW_iff (x : S37) : okW x = true ↔ (1 ≤ x.f0 ∧ x.f0 ≤ 999 ∧ 1 ≤ x.f1 ∧ x.f1 ≤ 5 ∧ 1 ≤ x.f2 ∧ x.f2 ≤ 3 ∧ 1 ≤ x.f3 ∧ x.f3 ≤ 9 ∧ 0 ≤ x.f4 ∧ x.f4 < x.f5 ∧ x.f5 ≤ 240) := by
  unfold okW
  rw [decide_eq_true_eq]
theorem lvl_pos {l : List S37} (hc : consB l = true) (t a h : Int) : (0 < lvl l t a h) ↔ ∃ x ∈ l, holdsB t a h x = true := by
  rw [lvl_find]
  constructor
  · intro h1
    cases hf : l.find? (holdsB t a h) with
    | none => rw [hf] at h1; simp at h1
    | some x => exact ⟨x, List.mem_of_find?_eq_some hf, List.find?_some hf⟩
  · rintro ⟨x, hx, hp⟩
    cases hf : l.find? (holdsB t a h) with
    | none => exact absurd hp (List.find?_eq_none.1 hf x hx)
    | some y =>
      have := (okW_iff y).1 (consB_ok hc y (List.mem_of_find?_eq_some hf))
      show 0 < y.f2
      omega
theorem lvl_nonneg {l : List S37} (hc : consB l = true) (t a h : Int) : 0 ≤ lvl l t a h := by
  rw [lvl_find]
  cases hf : l.find? (holdsB t a h) with
  | none => exact Int.le_refl _
  | some y =>
    have := (okW_iff y).1 (consB_ok hc y (List.mem_of_find?_eq_some hf))
    show 0 ≤ y.f2
    omega
end Go.Proofs.Ytfemneoahkglmaa.Q
