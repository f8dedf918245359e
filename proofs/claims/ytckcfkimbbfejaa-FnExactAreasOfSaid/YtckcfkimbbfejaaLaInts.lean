/- The laws' helpers on lists of whole numbers. -/
import Derived.Test.YtckcfkimbbfejaaQf10
import Derived.Test.YtckcfkimbbfejaaQf13
import Derived.Test.YtckcfkimbbfejaaQf13
import Derived.Test.YtckcfkimbbfejaaEv
namespace Go.Proofs.Ytckcfkimbbfejaa.Q
open Go.RowKit Go.Proofs.YtckcfkimbbfejaaW.PrintWords Go.Proofs.Ytckcfkimbbfejaa.Gen
set_option linter.unusedVariables false
set_option linter.unusedSimpArgs false
theorem rdI (l : List Int) (i : Nat) : rd l (i : Int) = l.getD i 0 := rfl
theorem ev_eqI (l : List Int) (hl : l.length ≤ 4611686018427387904) : Ev (fun k => laws_eqIntS.f k l l) true := by
  unfold laws_eqIntS.f
  refine Ev.congr (f := fun k => laws_eqIntS.l0 k l l ((0 : Nat) : Int)) (fun k => by rw [if_pos rfl]; rfl) ?_
  have key := ev_run (fun k (s : Unit) i => laws_eqIntS.l0 k l l i) l.length (fun _ _ => .inr ()) (fun _ => true) (fun _ _ => True)
    (by intro i s b hi _ h; cases h)
    (by
      intro i s s' r hi hs h
      refine ⟨trivial, fun he => Ev.congr (fun k => ?_) he⟩
      simp only [laws_eqIntS.l0]
      rw [if_pos (by omega), if_pos (by omega), if_pos (by omega), if_pos trivial, wrapS i (by omega)])
    (by
      intro s _
      refine Ev.eq_now fun k => ?_
      simp only [laws_eqIntS.l0]
      rw [if_neg (by omega)])
    l.length 0 () (by omega) trivial
  have hv : run (fun _ (_ : Unit) => (.inr () : Bool ⊕ Unit)) (fun _ => true) l.length 0 () = true :=
    run_inv (n := l.length) (fun _ _ => True) (fun b => b = true) (fun i s b _ _ h => by cases h) (fun _ _ _ _ _ _ => trivial) (fun _ _ => rfl) _ _ _ (by omega) trivial
  rw [hv] at key
  exact key

theorem ev_markI (l : List Int) (hl : l.length ≤ 1073741824) : Ev (fun k => laws_markIntS.f k l 1) (1 + (l.length : Int), marks 1 l.length) := by
  unfold laws_markIntS.f
  have key := ev_run (fun k (s : List Int × Int) i => laws_markIntS.l0 k s.1 s.2 i) l.length (fun i s => .inr (s.1.set i s.2, s.2 + 1)) (fun s => (s.2, s.1)) (fun i s => s.1.length = l.length ∧ s.2 = 1 + (i : Int))
    (by intro i s b hi _ h; cases h)
    (by
      rintro i ⟨s1, s2⟩ s' r hi ⟨h1, h2⟩ h
      cases h
      dsimp only at h1 h2
      refine ⟨⟨by simpa using h1, by dsimp only; omega⟩, fun he => Ev.congr (fun k => ?_) he⟩
      simp only [laws_markIntS.l0]
      rw [if_pos (by omega), if_pos (by omega), wrapS i (by omega), wrapS' s2 (by omega) (by omega)]
      rfl)
    (by
      rintro ⟨s1, s2⟩ ⟨h1, h2⟩
      dsimp only at h1 h2
      refine Ev.eq_now fun k => ?_
      simp only [laws_markIntS.l0]
      rw [if_neg (by omega)])
    l.length 0 (l, 1) (by omega) ⟨rfl, by simp⟩
  have hv : run (fun i (s : List Int × Int) => (.inr (s.1.set i s.2, s.2 + 1) : (Int × List Int) ⊕ (List Int × Int))) (fun s => (s.2, s.1)) l.length 0 (l, 1) = (1 + (l.length : Int), marks 1 l.length) := by
    refine run_inv (n := l.length) (fun i s => s.1.length = l.length ∧ s.2 = 1 + (i : Int) ∧ ∀ j, j < i → s.1[j]? = some (1 + (j : Int))) (fun b => b = (1 + (l.length : Int), marks 1 l.length)) (fun i s b _ _ h => by cases h) ?_ ?_ l.length 0 (l, 1) (by omega) ⟨rfl, by simp, fun j hj => absurd hj (Nat.not_lt_zero _)⟩
    · rintro i ⟨s1, s2⟩ s' hi ⟨h1, h2, h3⟩ h
      cases h
      dsimp only at h1 h2 h3 ⊢
      refine ⟨by simpa using h1, by omega, fun j hj => ?_⟩
      by_cases e : j = i
      · subst e
        rw [List.getElem?_set_self (by omega), h2]
      · rw [List.getElem?_set_ne (by omega)]
        exact h3 j (by omega)
    · rintro ⟨s1, s2⟩ ⟨h1, h2, h3⟩
      dsimp only at h1 h2 h3 ⊢
      rw [h2]
      congr 1
      apply List.ext_getElem?
      intro j
      by_cases hj : j < l.length
      · rw [h3 j hj]
        simp [marks, hj]
      · rw [List.getElem?_eq_none (by omega), List.getElem?_eq_none (by rw [marks_length]; omega)]
  rw [hv] at key
  exact key

theorem ev_heldI (n : Nat) (hn : n ≤ 1073741824) : Ev (fun k => laws_heldIntS.f k (marks 1 n) 1) (1 + (n : Int)) := by
  unfold laws_heldIntS.f
  have key := ev_run (fun k (s : Int) i => laws_heldIntS.l0 k (marks 1 n) s i) n (fun i s => .inr (s + 1)) (fun s => s) (fun i s => s = 1 + (i : Int))
    (by intro i s b hi _ h; cases h)
    (by
      intro i s s' r hi h1 h
      cases h
      refine ⟨by omega, fun he => Ev.congr (fun k => ?_) he⟩
      simp only [laws_heldIntS.l0]
      rw [marks_length, if_pos (by omega), if_pos (by omega), rdI, marks_get 1 n i hi, if_pos (by omega), wrapS i (by omega), wrapS' s (by omega) (by omega)])
    (by
      intro s h1
      refine Ev.eq_now fun k => ?_
      simp only [laws_heldIntS.l0]
      rw [marks_length, if_neg (by omega)])
    n 0 1 (by omega) (by simp)
  have hv : run (fun i (s : Int) => (.inr (s + 1) : Int ⊕ Int)) (fun s => s) n 0 1 = 1 + (n : Int) :=
    run_inv (n := n) (fun i s => s = 1 + (i : Int)) (fun b => b = 1 + (n : Int)) (fun i s b _ _ h => by cases h) (fun i s s' _ h1 h => by cases h; omega) (fun s h1 => h1) n 0 1 (by omega) (by simp)
  rw [hv] at key
  exact key
end Go.Proofs.Ytckcfkimbbfejaa.Q
