/- A list stays consistent when a warning is set to one that meets no more, or when one is taken out. -/
import Derived.Test.YthmkgdlmegohoaaQf66
import Derived.Test.YthmkgdlmegohoaaLaIssue
import Derived.Test.YthmkgdlmegohoaaLaLevel
namespace Go.Proofs.Ythmkgdlmegohoaa.Q
open Go.RowKit Go.Proofs.YthmkgdlmegohoaaW.PrintWords Go.Proofs.Ythmkgdlmegohoaa.Gen
set_option linter.unusedVariables false
set_option linter.unusedSimpArgs false
theorem consB_iff (l : List S30) : consB l = true ↔ l.length ≤ 12 ∧ ∀ j, j < l.length → okW (l.getD j z30) = true ∧ (j = 0 ∨ (l.getD (j - 1) z30).f0 < (l.getD j z30).f0) ∧ ∀ i, i < j → meetB (l.getD j z30) (l.getD i z30) = false := by
  unfold consB
  simp only [Bool.and_eq_true, decide_eq_true_eq]
  refine and_congr_right fun _ => forall_congr' fun j => forall_congr' fun hj => ?_
  unfold stepB clearB
  rw [any_take l _ j (by omega)]
  simp only [Bool.and_eq_true, Bool.or_eq_true, decide_eq_true_eq, beq_iff_eq, Bool.not_eq_true', decide_eq_false_iff_not, not_exists, not_and, Bool.not_eq_true, and_assoc]
theorem getD_set (l : List S30) (q j : Nat) (hq : q < l.length) (y : S30) : (l.set q y).getD j z30 = if j = q then y else l.getD j z30 := by
  rw [List.getD_eq_getElem?_getD, List.getD_eq_getElem?_getD]
  by_cases e : j = q
  · subst e; rw [if_pos rfl, List.getElem?_set_self hq]; rfl
  · rw [if_neg e, List.getElem?_set_ne (by omega)]
theorem cons_set {l : List S30} (hc : consB l = true) {q : Nat} (hq : q < l.length) {y : S30} (hy : okW y = true) (hid : y.f0 = (l.getD q z30).f0) (hm : ∀ x, meetB y x = true → meetB (l.getD q z30) x = true) : consB (l.set q y) = true := by
  rw [consB_iff] at hc ⊢
  rw [List.length_set]
  refine ⟨hc.1, fun j hj => ?_⟩
  obtain ⟨h1, h2, h3⟩ := hc.2 j hj
  have no : ∀ x, meetB (l.getD q z30) x = false → meetB y x = false := fun x hx => by
    rw [Bool.eq_false_iff]; intro e; rw [hm x e] at hx; cases hx
  simp only [getD_set l _ _ hq]
  by_cases e : j = q
  · subst e
    refine ⟨by rw [if_pos rfl]; exact hy, ?_, fun i hi => ?_⟩
    · rcases h2 with h | h
      · exact .inl h
      · by_cases e1 : j - 1 = j
        · exact .inl (by omega)
        · right; rw [if_neg e1, if_pos rfl, hid]; exact h
    · rw [if_pos rfl, if_neg (by omega)]
      exact no _ (h3 i hi)
  · refine ⟨by rw [if_neg e]; exact h1, ?_, fun i hi => ?_⟩
    · rcases h2 with h | h
      · exact .inl h
      · right
        rw [if_neg e]
        by_cases e1 : j - 1 = q
        · rw [if_pos e1, hid, ← e1]; exact h
        · rw [if_neg e1]; exact h
    · rw [if_neg e]
      by_cases e1 : i = q
      · rw [if_pos e1, meetB_comm]
        refine no _ ?_
        rw [meetB_comm, ← e1]
        exact h3 i hi
      · rw [if_neg e1]; exact h3 i hi
theorem cons_at {l : List S30} (hc : consB l = true) {q : Nat} (hq : q < l.length) : okW (l.getD q z30) = true := ((consB_iff l).1 hc).2 q hq |>.1
theorem cons_bad {l : List S30} {q : Nat} (hq : q < l.length) (h : okW (l.getD q z30) = false) : consB l = false := by
  rw [Bool.eq_false_iff]
  intro hc
  rw [cons_at hc hq] at h
  cases h
/-- A shorter warning meets no more than the longer one. -/
theorem cons_short {l : List S30} (hc : consB l = true) {q : Nat} (hq : q < l.length) (t : Int) (h1 : (l.getD q z30).f4 < t) (h2 : t ≤ (l.getD q z30).f5) : consB (l.set q ⟨(l.getD q z30).f0, (l.getD q z30).f1, (l.getD q z30).f2, (l.getD q z30).f3, (l.getD q z30).f4, t⟩) = true := by
  have ho := (okW_iff _).1 (cons_at hc hq)
  refine cons_set hc hq ?_ rfl ?_
  · rw [okW_iff]; dsimp only; omega
  · intro x hx
    unfold meetB at hx ⊢
    simp only [Bool.and_eq_true, decide_eq_true_eq] at hx ⊢
    omega
theorem ok_level (x : S30) (v : Int) (hx : okW x = true) : okW ⟨x.f0, x.f1, v, x.f3, x.f4, x.f5⟩ = decide (1 ≤ v ∧ v ≤ 3) := by
  have ho := (okW_iff _).1 hx
  unfold okW
  dsimp only
  apply decide_eq_decide.2
  omega
theorem cons_level {l : List S30} (hc : consB l = true) {q : Nat} (hq : q < l.length) (v : Int) : consB (l.set q ⟨(l.getD q z30).f0, (l.getD q z30).f1, v, (l.getD q z30).f3, (l.getD q z30).f4, (l.getD q z30).f5⟩) = decide (1 ≤ v ∧ v ≤ 3) := by
  by_cases h : 1 ≤ v ∧ v ≤ 3
  · rw [decide_eq_true h]
    refine cons_set hc hq ?_ rfl ?_
    · rw [ok_level _ v (cons_at hc hq), decide_eq_true h]
    · intro x hx; exact hx
  · rw [decide_eq_false h]
    refine cons_bad (q := q) (by rw [List.length_set]; exact hq) ?_
    rw [getD_set l q q hq, if_pos rfl, ok_level _ v (cons_at hc hq), decide_eq_false h]
theorem delete_f (l : List S30) (q : Nat) (hq : q < l.length) (hl : l.length ≤ 2097152) : impl_Warning_66.f l (q : Int) (wrap64 ((q : Int) + 1)) = some (l.eraseIdx q) := by
  unfold impl_Warning_66.f
  rw [if_pos ⟨by omega, by unfold wrap64; omega, by omega⟩, Int.toNat_natCast]
theorem erase_eq (l : List S30) (q : Nat) : l.eraseIdx q = l.take q ++ l.drop (q + 1) := List.eraseIdx_eq_take_drop_succ l q
theorem erase_len (l : List S30) (q : Nat) : (l.eraseIdx q).length ≤ l.length := by
  rw [List.length_eraseIdx]; split <;> omega
end Go.Proofs.Ythmkgdlmegohoaa.Q
