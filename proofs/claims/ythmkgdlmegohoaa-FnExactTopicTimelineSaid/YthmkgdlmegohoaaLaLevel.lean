/- Levels: of a topic and an area at an hour, and of an area: what both programs say. -/
import Derived.Test.YthmkgdlmegohoaaQf76
import Derived.Test.YthmkgdlmegohoaaQf80
import Derived.Test.YthmkgdlmegohoaaLaW
namespace Go.Proofs.Ythmkgdlmegohoaa.Q
open Go.RowKit Go.Proofs.YthmkgdlmegohoaaW.PrintWords Go.Proofs.Ythmkgdlmegohoaa.Gen
set_option linter.unusedVariables false
set_option linter.unusedSimpArgs false
theorem ev_l15Level (l : List S30) (hl : l.length ≤ 4611686018427387904) (t a h : Int) : Ev (fun k => spec_l15Level.f k l t a h) (lvl l t a h) := by
  unfold spec_l15Level.f lvl
  refine ev_run (fun k (_ : Unit) i => spec_l15Level.l0 k l t a h i) l.length _ (fun _ => 0) (fun _ _ => True) ?_ ?_ ?_ l.length 0 () (by omega) trivial
  · intro i s b hi _ hf
    refine Ev.eq_now fun k => ?_
    obtain ⟨hh, rfl⟩ := inl_of hf
    unfold holdsB at hh
    simp only [Bool.and_eq_true, decide_eq_true_eq] at hh
    simp only [spec_l15Level.l0]
    rw [if_pos (by omega), if_pos (by omega), rdW, if_pos hh.1, if_pos hh.2.1, l1In_f]
    simp only [Option.bind_some]
    rw [if_pos (by exact hh.2.2)]
  · intro i s s' r hi _ hf
    refine ⟨trivial, fun he => Ev.congr (fun k => ?_) he⟩
    have hh := (inr_of hf).1
    simp only [spec_l15Level.l0]
    rw [if_pos (by omega), if_pos (by omega), rdW, wrapS i (by omega)]
    by_cases h1 : (l.getD i z30).f1 = t
    · by_cases h2 : (l.getD i z30).f3 = a
      · rw [if_pos h1, if_pos h2, l1In_f]
        simp only [Option.bind_some]
        rw [if_neg]
        intro h3
        unfold holdsB at hh
        rw [decide_eq_true h1, decide_eq_true h2] at hh
        rw [show decide ((l.getD i z30).f4 ≤ h ∧ h ≤ wrap64 ((l.getD i z30).f5 - 1)) = atB (l.getD i z30) h from rfl] at h3
        rw [h3] at hh
        cases hh
      · rw [if_pos h1, if_neg h2]
    · rw [if_neg h1]
  · intro s _
    refine Ev.eq_now fun k => ?_
    simp only [spec_l15Level.l0]
    rw [if_neg (by omega)]

theorem lvl_find (l : List S30) (t a h : Int) : lvl l t a h = (l.find? (holdsB t a h)).elim 0 (fun x => x.f2) := by
  unfold lvl
  rw [run_find l z30 (holdsB t a h) (fun x => x.f2) 0 l.length 0 (by omega), List.drop_zero]
theorem consB_ok {l : List S30} (h : consB l = true) : ∀ x ∈ l, okW x = true := by
  intro x hx
  obtain ⟨j, hj, rfl⟩ := List.getElem_of_mem hx
  unfold consB at h
  simp only [Bool.and_eq_true, decide_eq_true_eq] at h
  have h1 := (h.2 j hj).1
  unfold stepB at h1
  simp only [Bool.and_eq_true] at h1
  rw [← getD_lt l z30 j hj]
  exact h1.1
theorem consB_len {l : List S30} (h : consB l = true) : l.length ≤ 12 := by
  unfold consB at h
  simp only [Bool.and_eq_true, decide_eq_true_eq] at h
  exact h.1
theorem okW_iff (x : S30) : okW x = true ↔ (1 ≤ x.f0 ∧ x.f0 ≤ 999 ∧ 1 ≤ x.f1 ∧ x.f1 ≤ 5 ∧ 1 ≤ x.f2 ∧ x.f2 ≤ 3 ∧ 1 ≤ x.f3 ∧ x.f3 ≤ 9 ∧ 0 ≤ x.f4 ∧ x.f4 < x.f5 ∧ x.f5 ≤ 240) := by
  unfold okW
  rw [decide_eq_true_eq]
theorem lvl_pos {l : List S30} (hc : consB l = true) (t a h : Int) : (0 < lvl l t a h) ↔ ∃ x ∈ l, holdsB t a h x = true := by
  rw [lvl_find]
  constructor
  · intro h1
    cases hf : l.find? (holdsB t a h) with
    | none => rw [hf] at h1; simp at h1
    | some x => exact ⟨x, List.mem_of_find?_eq_some hf, List.find?_some hf⟩
  · rintro ⟨x, hx, hp⟩
    cases hf : l.find? (holdsB t a h) with
    | none => exact absurd hp (List.find?_eq_none.1 hf x hx)
    | some y =>
      have := (okW_iff y).1 (consB_ok hc y (List.mem_of_find?_eq_some hf))
      show 0 < y.f2
      omega
theorem lvl_nonneg {l : List S30} (hc : consB l = true) (t a h : Int) : 0 ≤ lvl l t a h := by
  rw [lvl_find]
  cases hf : l.find? (holdsB t a h) with
  | none => exact Int.le_refl _
  | some y =>
    have := (okW_iff y).1 (consB_ok hc y (List.mem_of_find?_eq_some hf))
    show 0 ≤ y.f2
    omega
end Go.Proofs.Ythmkgdlmegohoaa.Q
