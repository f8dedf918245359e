/- Joining keeps a list consistent and changes no level: plain facts about lists of warnings. -/
import Derived.Test.YtfemneoahkglmaaLaJoin
import Derived.Test.YtfemneoahkglmaaLaApart
namespace Go.Proofs.Ytfemneoahkglmaa.Q
open Go.RowKit Go.Proofs.YtfemneoahkglmaaW.PrintWords Go.Proofs.Ytfemneoahkglmaa.Gen
set_option linter.unusedVariables false
set_option linter.unusedSimpArgs false
theorem joinAt_get (l : List S37) (i q : Nat) (hi : i < q) (hq : q < l.length) (j : Nat) (hj : j < l.length - 1) : (joinAt l i q).getD j z37 = if j = i then joinW (l.getD i z37) (l.getD q z37) else l.getD (frm q j) z37 := by
  unfold joinAt frm
  have hlen : ((l.set i (joinW (l.getD i z37) (l.getD q z37))).eraseIdx q).length = l.length - 1 := by rw [List.length_eraseIdx, List.length_set, if_pos hq]
  rw [getD_lt _ _ j (by omega), List.getElem_eraseIdx]
  by_cases h1 : j < q
  · rw [dif_pos h1, List.getElem_set]
    by_cases h2 : i = j
    · subst h2; rw [if_pos rfl, if_pos rfl]
    · rw [if_neg h2, if_neg (fun e => h2 e.symm), if_pos h1, getD_lt l _ j (by omega)]
  · rw [dif_neg h1, List.getElem_set, if_neg (by omega), if_neg (by omega), if_neg h1, getD_lt l _ (j + 1) (by omega)]
theorem joinW_ok {x y : S37} (hx : okW x = true) (hy : okW y = true) : okW (joinW x y) = true := by
  rw [okW_iff] at hx hy ⊢
  unfold joinW mn mx
  dsimp only
  refine ⟨by omega, by omega, by omega, by omega, by omega, by omega, by omega, by omega, ?_, ?_, ?_⟩ <;> (repeat' split) <;> omega
theorem joinW_meet {x y o : S37} (hx : okW x = true) (hy : okW y = true) (ho : okW o = true) (hj : joinsB x y = true) (h : meetB (joinW x y) o = true) : meetB x o = true ∨ meetB y o = true := by
  rw [okW_iff] at hx hy ho
  rw [joinsB_iff] at hj
  rw [meetB_iff] at h
  rw [meetB_iff, meetB_iff]
  unfold joinW mn mx at h
  dsimp only at h
  obtain ⟨h1, h2, h3, h4⟩ := h
  by_cases e : x.f4 < o.f5 ∧ o.f4 < x.f5
  · exact .inl ⟨by omega, by omega, e.1, e.2⟩
  · refine .inr ⟨by omega, by omega, ?_, ?_⟩
    · split at h3 <;> split at h4 <;> omega
    · split at h3 <;> split at h4 <;> omega
theorem cons_joinAt {l : List S37} (hc : consB l = true) {i q : Nat} (hi : i < q) (hq : q < l.length) (hj : joinsB (l.getD i z37) (l.getD q z37) = true) : consB (joinAt l i q) = true := by
  have hlen := joinAt_len l i q hq
  have hil : i < l.length := by omega
  rw [consB_iff, hlen]
  refine ⟨by have := consB_len hc; omega, fun j hjl => ?_⟩
  have fi : frm q i = i := by unfold frm; rw [if_pos hi]
  -- the number of an element is that of its origin
  have hid : ∀ p, p < l.length - 1 → ((joinAt l i q).getD p z37).f0 = (l.getD (frm q p) z37).f0 := fun p hp => by
    rw [joinAt_get l i q hi hq p hp]
    by_cases e : p = i
    · rw [if_pos e, e, fi]; rfl
    · rw [if_neg e]
  refine ⟨?_, ?_, ?_⟩
  · rw [joinAt_get l i q hi hq j hjl]
    by_cases e : j = i
    · rw [if_pos e]; exact joinW_ok (cons_at hc hil) (cons_at hc hq)
    · rw [if_neg e]; exact cons_at hc (frm_lt q j _ hq hjl)
  · by_cases h0 : j = 0
    · exact .inl h0
    · refine .inr ?_
      rw [hid (j - 1) (by omega), hid j hjl]
      exact cons_ids hc _ _ (frm_mono q _ _ (by omega)) (frm_lt q j _ hq hjl)
  · intro k hk
    have ok_ : ∀ p, p < l.length - 1 → p ≠ i → meetB (joinW (l.getD i z37) (l.getD q z37)) (l.getD (frm q p) z37) = false := fun p hp hpi => by
      rw [Bool.eq_false_iff]
      intro hm
      have hfl := frm_lt q p _ hq hp
      have hfi : frm q p ≠ i := by
        unfold frm; split
        · exact hpi
        · omega
      rcases joinW_meet (cons_at hc hil) (cons_at hc hq) (cons_at hc hfl) hj hm with h | h
      · rw [cons_apart hc hil hfl hfi.symm] at h; cases h
      · rw [cons_apart hc hq hfl (frm_ne q p).symm] at h; cases h
    rw [joinAt_get l i q hi hq j hjl, joinAt_get l i q hi hq k (by omega)]
    by_cases e1 : j = i
    · rw [if_pos e1, if_neg (by omega)]
      exact ok_ k (by omega) (by omega)
    · rw [if_neg e1]
      by_cases e2 : k = i
      · rw [if_pos e2, meetB_comm]
        exact ok_ j hjl e1
      · rw [if_neg e2]
        exact cons_apart hc (frm_lt q j _ hq hjl) (frm_lt q k _ hq (by omega)) (by have := frm_mono q k j hk; omega)
theorem joinW_holds {x y : S37} (hx : okW x = true) (hy : okW y = true) (hj : joinsB x y = true) (t a h : Int) : holdsB t a h (joinW x y) = (holdsB t a h x || holdsB t a h y) := by
  have hw := joinW_ok hx hy
  rw [Bool.eq_iff_iff, Bool.or_eq_true, holds_iff hw, holds_iff hx, holds_iff hy]
  rw [okW_iff] at hx hy
  rw [joinsB_iff] at hj
  unfold joinW mn mx
  dsimp only
  constructor
  · rintro ⟨h1, h2, h3, h4⟩
    by_cases e : x.f4 ≤ h ∧ h < x.f5
    · exact .inl ⟨h1, h2, e.1, e.2⟩
    · refine .inr ⟨by omega, by omega, ?_, ?_⟩
      · split at h3 <;> split at h4 <;> omega
      · split at h3 <;> split at h4 <;> omega
  · rintro (⟨h1, h2, h3, h4⟩ | ⟨h1, h2, h3, h4⟩)
    · exact ⟨h1, h2, by split <;> omega, by split <;> omega⟩
    · exact ⟨by omega, by omega, by split <;> omega, by split <;> omega⟩
theorem lvl_joinAt {l : List S37} (hc : consB l = true) {i q : Nat} (hi : i < q) (hq : q < l.length) (hj : joinsB (l.getD i z37) (l.getD q z37) = true) (t a h : Int) : lvl (joinAt l i q) t a h = lvl l t a h := by
  have hil : i < l.length := by omega
  have hlen := joinAt_len l i q hq
  have hcj := cons_joinAt hc hi hq hj
  have hw := joinW_holds (cons_at hc hil) (cons_at hc hq) hj t a h
  have hji := joinAt_get l i q hi hq i (by omega)
  rw [if_pos rfl] at hji
  have hf2 : (l.getD i z37).f2 = (l.getD q z37).f2 := ((joinsB_iff _ _).1 hj).2.2.1
  by_cases hx : ∃ p, p < l.length ∧ holdsB t a h (l.getD p z37) = true
  · obtain ⟨p, hp, hh⟩ := hx
    rw [lvl_at hc hp hh]
    by_cases e1 : p = i
    · subst e1
      have hh' : holdsB t a h ((joinAt l p q).getD p z37) = true := by rw [hji, hw, hh]; rfl
      rw [lvl_at hcj (by omega) hh', hji]; rfl
    · by_cases e2 : p = q
      · subst e2
        have hh' : holdsB t a h ((joinAt l i p).getD i z37) = true := by rw [hji, hw, hh, Bool.or_true]
        rw [lvl_at hcj (by omega) hh', hji, ← hf2]; rfl
      · obtain ⟨j, hjl, hfj, hne⟩ : ∃ j, j < l.length - 1 ∧ frm q j = p ∧ j ≠ i := by
          by_cases e3 : p < q
          · exact ⟨p, by omega, by unfold frm; rw [if_pos e3], e1⟩
          · exact ⟨p - 1, by omega, by unfold frm; rw [if_neg (by omega)]; omega, by omega⟩
        have hg := joinAt_get l i q hi hq j hjl
        rw [if_neg hne, hfj] at hg
        have hh' : holdsB t a h ((joinAt l i q).getD j z37) = true := by rw [hg]; exact hh
        rw [lvl_at hcj (by omega) hh', hg]
  · have hn : ∀ p, p < l.length → holdsB t a h (l.getD p z37) = false := fun p hp => by
      rw [Bool.eq_false_iff]; exact fun e => hx ⟨p, hp, e⟩
    rw [lvl_zero hn, lvl_zero]
    intro p hp
    rw [hlen] at hp
    rw [joinAt_get l i q hi hq p hp]
    by_cases e : p = i
    · rw [if_pos e, hw, hn i hil, hn q hq]; rfl
    · rw [if_neg e]; exact hn _ (frm_lt q p _ hq hp)
theorem joinF_keeps : ∀ n (l : List S37), consB l = true → consB (joinF n l) = true ∧ ∀ t a h, lvl (joinF n l) t a h = lvl l t a h := by
  intro n
  induction n with
  | zero => intro l hc; exact ⟨hc, fun _ _ _ => rfl⟩
  | succ n ih =>
    intro l hc
    unfold joinF
    cases hp : firstP l with
    | none => exact ⟨hc, fun _ _ _ => rfl⟩
    | some p =>
      have h := firstFrom_some l _ _ p (Nat.zero_add _) hp
      have h1 := ih _ (cons_joinAt hc h.1 h.2.1 h.2.2)
      exact ⟨h1.1, fun t a h' => (h1.2 t a h').trans (lvl_joinAt hc h.1 h.2.1 h.2.2 t a h')⟩
end Go.Proofs.Ytfemneoahkglmaa.Q
