/- Two places of a consistent list are apart: plain facts about lists of warnings. -/
import Derived.Test.YtfemneoahkglmaaLaSet
namespace Go.Proofs.Ytfemneoahkglmaa.Q
open Go.RowKit Go.Proofs.YtfemneoahkglmaaW.PrintWords Go.Proofs.Ytfemneoahkglmaa.Gen
set_option linter.unusedVariables false
set_option linter.unusedSimpArgs false
theorem meetB_iff (a b : S37) : meetB a b = true ↔ a.f1 = b.f1 ∧ a.f3 = b.f3 ∧ a.f4 < b.f5 ∧ b.f4 < a.f5 := by
  unfold meetB
  simp only [Bool.and_eq_true, decide_eq_true_eq]
/-- Two places of a consistent list do not meet. -/
theorem cons_apart {l : List S37} (hc : consB l = true) {a b : Nat} (ha : a < l.length) (hb : b < l.length) (hab : a ≠ b) : meetB (l.getD a z37) (l.getD b z37) = false := by
  have h := ((consB_iff l).1 hc).2
  rcases Nat.lt_or_gt_of_ne hab with h1 | h1
  · rw [meetB_comm]; exact (h b hb).2.2 a h1
  · exact (h a ha).2.2 b h1
theorem cons_ids {l : List S37} (hc : consB l = true) : ∀ b a, a < b → b < l.length → (l.getD a z37).f0 < (l.getD b z37).f0 := by
  intro b
  induction b with
  | zero => intro a h; omega
  | succ b ih =>
    intro a h hb
    have h1 := (((consB_iff l).1 hc).2 (b + 1) hb).2.1
    rcases h1 with h1 | h1
    · omega
    · rw [Nat.add_sub_cancel] at h1
      by_cases e : a = b
      · subst e; exact h1
      · have := ih a (by omega) (by omega)
        omega
theorem holds_iff {x : S37} (hx : okW x = true) (t a h : Int) : holdsB t a h x = true ↔ x.f1 = t ∧ x.f3 = a ∧ x.f4 ≤ h ∧ h < x.f5 := by
  have hx' := (okW_iff x).1 hx
  unfold holdsB atB
  simp only [Bool.and_eq_true, decide_eq_true_eq]
  rw [show wrap64 (x.f5 - 1) = x.f5 - 1 from by unfold wrap64; omega]
  constructor
  · rintro ⟨h1, h2, h3, h4⟩; exact ⟨h1, h2, h3, by omega⟩
  · rintro ⟨h1, h2, h3, h4⟩; exact ⟨h1, h2, h3, by omega⟩
/-- The level is that of any warning that holds. -/
theorem lvl_at {l : List S37} (hc : consB l = true) {p : Nat} (hp : p < l.length) {t a h : Int} (hh : holdsB t a h (l.getD p z37) = true) : lvl l t a h = (l.getD p z37).f2 := by
  rw [lvl_find]
  cases hf : l.find? (holdsB t a h) with
  | none =>
    have := List.find?_eq_none.1 hf (l.getD p z37) (by rw [getD_lt l _ p hp]; exact List.getElem_mem hp)
    exact absurd hh this
  | some y =>
    obtain ⟨q, hq, rfl⟩ := List.getElem_of_mem (List.mem_of_find?_eq_some hf)
    have hy := List.find?_some hf
    rw [← getD_lt l z37 q hq] at hy ⊢
    by_cases e : q = p
    · rw [e]; rfl
    · exfalso
      have h1 := (holds_iff (cons_at hc hp) t a h).1 hh
      have h2 := (holds_iff (cons_at hc hq) t a h).1 hy
      have h3 := cons_apart hc hq hp e
      rw [Bool.eq_false_iff] at h3
      exact h3 ((meetB_iff _ _).2 ⟨by omega, by omega, by omega, by omega⟩)
theorem lvl_zero {l : List S37} {t a h : Int} (hn : ∀ p, p < l.length → holdsB t a h (l.getD p z37) = false) : lvl l t a h = 0 := by
  rw [lvl_find]
  cases hf : l.find? (holdsB t a h) with
  | none => rfl
  | some y =>
    obtain ⟨q, hq, rfl⟩ := List.getElem_of_mem (List.mem_of_find?_eq_some hf)
    have hy := List.find?_some hf
    rw [← getD_lt l z37 q hq, hn q hq] at hy
    cases hy
/-- Where an element of the joined list comes from. -/
def frm (q j : Nat) : Nat := if j < q then j else j + 1
theorem frm_ne (q j : Nat) : frm q j ≠ q := by unfold frm; split <;> omega
theorem frm_lt (q j n : Nat) (hq : q < n) (hj : j < n - 1) : frm q j < n := by unfold frm; split <;> omega
theorem frm_mono (q a b : Nat) (h : a < b) : frm q a < frm q b := by unfold frm; split <;> split <;> omega
theorem erase_get (l : List S37) (q : Nat) (hq : q < l.length) (j : Nat) (hj : j < l.length - 1) : (l.eraseIdx q).getD j z37 = l.getD (frm q j) z37 := by
  have hlen : (l.eraseIdx q).length = l.length - 1 := by rw [List.length_eraseIdx, if_pos hq]
  unfold frm
  rw [getD_lt _ _ j (by omega), List.getElem_eraseIdx]
  by_cases h1 : j < q
  · rw [dif_pos h1, if_pos h1, getD_lt l _ j (by omega)]
  · rw [dif_neg h1, if_neg h1, getD_lt l _ (j + 1) (by omega)]
theorem cons_erase {l : List S37} (hc : consB l = true) {q : Nat} (hq : q < l.length) : consB (l.eraseIdx q) = true := by
  have hlen : (l.eraseIdx q).length = l.length - 1 := by rw [List.length_eraseIdx, if_pos hq]
  rw [consB_iff, hlen]
  refine ⟨by have := consB_len hc; omega, fun j hj => ?_⟩
  rw [erase_get l q hq j hj]
  have hf := frm_lt q j _ hq hj
  refine ⟨cons_at hc hf, ?_, fun i hi => ?_⟩
  · by_cases h0 : j = 0
    · exact .inl h0
    · refine .inr ?_
      rw [erase_get l q hq (j - 1) (by omega)]
      exact cons_ids hc _ _ (frm_mono q _ _ (by omega)) hf
  · rw [erase_get l q hq i (by omega)]
    exact cons_apart hc hf (frm_lt q i _ hq (by omega)) (by have := frm_mono q i j hi; omega)
end Go.Proofs.Ytfemneoahkglmaa.Q
