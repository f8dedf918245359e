/- The greatest level of an area at an hour: what both programs say. -/
import Derived.Test.YthmkgdlmegohoaaQf84
import Derived.Test.YthmkgdlmegohoaaQf86
import Derived.Test.YthmkgdlmegohoaaLaLevel
namespace Go.Proofs.Ythmkgdlmegohoaa.Q
open Go.RowKit Go.Proofs.YthmkgdlmegohoaaW.PrintWords Go.Proofs.Ythmkgdlmegohoaa.Gen
set_option linter.unusedVariables false
set_option linter.unusedSimpArgs false
theorem most_f (a b : Int) : spec_l1Most.f a b = some (mx a b) := by
  unfold spec_l1Most.f mx
  by_cases h : a > b
  · rw [if_pos h, if_neg (by omega)]
  · rw [if_neg h]
    by_cases h2 : a < b
    · rw [if_pos h2]
    · rw [if_neg h2]; congr 1; omega
theorem ev_l15Greatest (l : List S30) (hl : l.length ≤ 4611686018427387904) (a h : Int) : Ev (fun k => spec_l15Greatest.f k l a h) (great l a h) := by
  unfold spec_l15Greatest.f great
  refine ev_run (fun k (s : Int) i => spec_l15Greatest.l0 k l a h s i) 6 _ (fun s => s) (fun _ _ => True) ?_ ?_ ?_ 5 1 0 (by omega) trivial
  · intro i s b hi _ hf; cases hf
  · intro i s s' r hi _ hf
    cases hf
    refine ⟨trivial, fun he => ?_⟩
    simp only [spec_l15Greatest.l0]
    refine Ev.congr (fun k => if_pos (by omega)) ?_
    refine Ev.bind (f := fun k t => _) (ev_l15Level l hl _ _ _) ?_
    refine Ev.bind (f := fun k t => _) (Ev.eq_now fun k => most_f _ _) ?_
    rw [wrapS i (by omega)]
    exact he
  · intro s _
    refine Ev.eq_now fun k => ?_
    simp only [spec_l15Greatest.l0]
    rw [if_neg (by omega)]
theorem great_eq (l : List S30) (a h : Int) : great l a h = mx (mx (mx (mx (mx 0 (lvl l 1 a h)) (lvl l 2 a h)) (lvl l 3 a h)) (lvl l 4 a h)) (lvl l 5 a h) := rfl
theorem great_pos {l : List S30} (hc : consB l = true) (a h : Int) : (0 < great l a h) ↔ l.any (fun x => decide (x.f3 = a) && atB x h) = true := by
  have h1 := lvl_pos hc 1 a h
  have h2 := lvl_pos hc 2 a h
  have h3 := lvl_pos hc 3 a h
  have h4 := lvl_pos hc 4 a h
  have h5 := lvl_pos hc 5 a h
  have e : (0 < great l a h) ↔ (0 < lvl l 1 a h ∨ 0 < lvl l 2 a h ∨ 0 < lvl l 3 a h ∨ 0 < lvl l 4 a h ∨ 0 < lvl l 5 a h) := by
    rw [great_eq]
    unfold mx
    repeat' split
    all_goals omega
  rw [e, h1, h2, h3, h4, h5, List.any_eq_true]
  constructor
  · rintro (⟨x, hx, hp⟩ | ⟨x, hx, hp⟩ | ⟨x, hx, hp⟩ | ⟨x, hx, hp⟩ | ⟨x, hx, hp⟩) <;> (unfold holdsB at hp; simp only [Bool.and_eq_true] at hp; exact ⟨x, hx, by simp only [Bool.and_eq_true]; exact hp.2⟩)
  · rintro ⟨x, hx, hp⟩
    simp only [Bool.and_eq_true] at hp
    have ho := (okW_iff x).1 (consB_ok hc x hx)
    have key : ∀ t : Int, x.f1 = t → ∃ x ∈ l, holdsB t a h x = true := fun t ht => ⟨x, hx, by unfold holdsB; simp only [Bool.and_eq_true, decide_eq_true_eq]; exact ⟨ht, by simpa using hp.1, hp.2⟩⟩
    have : x.f1 = 1 ∨ x.f1 = 2 ∨ x.f1 = 3 ∨ x.f1 = 4 ∨ x.f1 = 5 := by omega
    rcases this with ht | ht | ht | ht | ht
    · exact .inl (key _ ht)
    · exact .inr (.inl (key _ ht))
    · exact .inr (.inr (.inl (key _ ht)))
    · exact .inr (.inr (.inr (.inl (key _ ht))))
    · exact .inr (.inr (.inr (.inr (key _ ht))))
end Go.Proofs.Ythmkgdlmegohoaa.Q
