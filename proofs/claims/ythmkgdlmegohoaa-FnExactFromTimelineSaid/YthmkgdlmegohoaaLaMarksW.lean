/- The laws' helpers on lists of Warning: marks, what is held, equality. -/
import Derived.Test.YthmkgdlmegohoaaQf19
import Derived.Test.YthmkgdlmegohoaaQf20
import Derived.Test.YthmkgdlmegohoaaQf18
import Derived.Test.YthmkgdlmegohoaaEv
namespace Go.Proofs.Ythmkgdlmegohoaa.Q
open Go.RowKit Go.Proofs.YthmkgdlmegohoaaW.PrintWords Go.Proofs.Ythmkgdlmegohoaa.Gen
set_option linter.unusedVariables false
set_option linter.unusedSimpArgs false
def mkW (m : Int) : S30 := ⟨m, m + 1, m + 2, m + 3, m + 4, m + 5⟩
def marksW (n : Nat) : List S30 := (List.range n).map fun (i : Nat) => mkW (1 + 6 * (i : Int))
theorem marksW_length (n : Nat) : (marksW n).length = n := by simp [marksW]
theorem marksW_get (n i : Nat) (hi : i < n) : (marksW n).getD i z30 = mkW (1 + 6 * (i : Int)) := by
  rw [List.getD_eq_getElem?_getD]
  simp [marksW, hi]
theorem rdVW (l : List S30) (i : Nat) : rd_T30 l (i : Int) = l.getD i z30 := rfl
theorem ev_markVW (l : List S30) (hl : l.length ≤ 1073741824) : Ev (fun k => laws_markWarningS.f k l 1) (1 + 6 * (l.length : Int), marksW l.length) := by
  unfold laws_markWarningS.f
  let f : Nat → List S30 × Int → (Int × List S30) ⊕ (List S30 × Int) := fun i s => .inr (s.1.set i (mkW s.2), s.2 + 6)
  have key := ev_run (fun k (s : List S30 × Int) i => laws_markWarningS.l0 k s.1 s.2 i) l.length f (fun s => (s.2, s.1)) (fun i s => s.1.length = l.length ∧ s.2 = 1 + 6 * (i : Int))
    (by intro i s b hi _ h; cases h)
    (by
      rintro i ⟨s1, s2⟩ s' r hi ⟨h1, h2⟩ h
      cases h
      dsimp only at h1 h2
      refine ⟨⟨by simpa using h1, by dsimp only; omega⟩, fun he => Ev.congr (fun k => ?_) he⟩
      simp only [laws_markWarningS.l0]
      rw [if_pos (by omega), if_pos (by omega), wrapS i (by omega), wrapS' (s2) (by omega) (by omega), wrapS' (s2 + 1) (by omega) (by omega), wrapS' (s2 + 1 + 1) (by omega) (by omega), wrapS' (s2 + 1 + 1 + 1) (by omega) (by omega), wrapS' (s2 + 1 + 1 + 1 + 1) (by omega) (by omega), wrapS' (s2 + 1 + 1 + 1 + 1 + 1) (by omega) (by omega)]
      have e : ∀ (q : List S30) (v : S30), q.length = l.length → rd_T30 (q.set i v) (i : Int) = v := fun q v hq => by
        rw [rdVW, List.getD_eq_getElem?_getD, List.getElem?_set_self (by omega)]; rfl
      simp only [Option.bind_some, Int.toNat_natCast, e s1 _ h1, List.set_set, Int.add_assoc]
      rfl)
    (by
      rintro ⟨s1, s2⟩ ⟨h1, h2⟩
      dsimp only at h1 h2
      refine Ev.eq_now fun k => ?_
      simp only [laws_markWarningS.l0]
      rw [if_neg (by omega)])
    l.length 0 (l, 1) (by omega) ⟨rfl, by simp⟩
  have hv : run f (fun s => (s.2, s.1)) l.length 0 (l, 1) = (1 + 6 * (l.length : Int), marksW l.length) := by
    refine run_inv (n := l.length) (fun i s => s.1.length = l.length ∧ s.2 = 1 + 6 * (i : Int) ∧ ∀ j, j < i → s.1[j]? = some (mkW (1 + 6 * (j : Int)))) (fun b => b = (1 + 6 * (l.length : Int), marksW l.length)) (fun i s b _ _ h => by cases h) ?_ ?_ l.length 0 (l, 1) (by omega) ⟨rfl, by simp, fun j hj => absurd hj (Nat.not_lt_zero _)⟩
    · rintro i ⟨s1, s2⟩ s' hi ⟨h1, h2, h3⟩ h
      cases h
      dsimp only at h1 h2 h3 ⊢
      refine ⟨by simpa using h1, by omega, fun j hj => ?_⟩
      by_cases e : j = i
      · subst e
        rw [List.getElem?_set_self (by omega), h2]
      · rw [List.getElem?_set_ne (by omega)]
        exact h3 j (by omega)
    · rintro ⟨s1, s2⟩ ⟨h1, h2, h3⟩
      dsimp only at h1 h2 h3 ⊢
      rw [h2]
      congr 1
      apply List.ext_getElem?
      intro j
      by_cases hj : j < l.length
      · rw [h3 j hj]
        simp [marksW, hj]
      · rw [List.getElem?_eq_none (by omega), List.getElem?_eq_none (by rw [marksW_length]; omega)]
  rw [hv] at key
  exact key
theorem ev_heldVW (n : Nat) (hn : n ≤ 1073741824) : Ev (fun k => laws_heldWarningS.f k (marksW n) 1) (1 + 6 * (n : Int)) := by
  unfold laws_heldWarningS.f
  have key := ev_run (fun k (s : Int) i => laws_heldWarningS.l0 k (marksW n) s i) n (fun i s => .inr (s + 6)) (fun s => s) (fun i s => s = 1 + 6 * (i : Int))
    (by intro i s b hi _ h; cases h)
    (by
      intro i s s' r hi h1 h
      cases h
      refine ⟨by omega, fun he => Ev.congr (fun k => ?_) he⟩
      simp only [laws_heldWarningS.l0]
      rw [marksW_length, if_pos (by omega), if_pos (by omega), rdVW, marksW_get n i hi, wrapS i (by omega), wrapS' (s) (by omega) (by omega), wrapS' (s + 1) (by omega) (by omega), wrapS' (s + 1 + 1) (by omega) (by omega), wrapS' (s + 1 + 1 + 1) (by omega) (by omega), wrapS' (s + 1 + 1 + 1 + 1) (by omega) (by omega), wrapS' (s + 1 + 1 + 1 + 1 + 1) (by omega) (by omega)]
      simp only [mkW, Int.add_assoc, ← h1]
      simp only [Int.reduceAdd, if_true])
    (by
      intro s h1
      refine Ev.eq_now fun k => ?_
      simp only [laws_heldWarningS.l0]
      rw [marksW_length, if_neg (by omega)])
    n 0 1 (by omega) (by simp)
  have hv : run (fun i (s : Int) => (.inr (s + 6) : Int ⊕ Int)) (fun s => s) n 0 1 = 1 + 6 * (n : Int) :=
    run_inv (n := n) (fun i s => s = 1 + 6 * (i : Int)) (fun b => b = 1 + 6 * (n : Int)) (fun i s b _ _ h => by cases h) (fun i s s' _ h1 h => by cases h; omega) (fun s h1 => h1) n 0 1 (by omega) (by simp)
  rw [hv] at key
  exact key
theorem ev_eqVW (l : List S30) (hl : l.length ≤ 4611686018427387904) : Ev (fun k => laws_eqWarningS.f k l l) true := by
  unfold laws_eqWarningS.f
  refine Ev.congr (f := fun k => laws_eqWarningS.l0 k l l ((0 : Nat) : Int)) (fun k => by rw [if_pos rfl]; rfl) ?_
  have key := ev_run (fun k (s : Unit) i => laws_eqWarningS.l0 k l l i) l.length (fun _ _ => .inr ()) (fun _ => true) (fun _ _ => True)
    (by intro i s b hi _ h; cases h)
    (by
      intro i s s' r hi hs h
      refine ⟨trivial, fun he => Ev.congr (fun k => ?_) he⟩
      have e : ∀ y : S30, laws_eqWarning.f y.f0 y.f1 y.f2 y.f3 y.f4 y.f5 y.f0 y.f1 y.f2 y.f3 y.f4 y.f5 = some true := fun y => by unfold laws_eqWarning.f; simp
      simp only [laws_eqWarningS.l0]
      rw [if_pos (by omega), if_pos (by omega), if_pos (by omega), rdVW, e, wrapS i (by omega)]
      rfl)
    (by
      intro s _
      refine Ev.eq_now fun k => ?_
      simp only [laws_eqWarningS.l0]
      rw [if_neg (by omega)])
    l.length 0 () (by omega) trivial
  have hv : run (fun _ (_ : Unit) => (.inr () : Bool ⊕ Unit)) (fun _ => true) l.length 0 () = true :=
    run_inv (n := l.length) (fun _ _ => True) (fun b => b = true) (fun i s b _ _ h => by cases h) (fun _ _ _ _ _ _ => trivial) (fun _ _ => rfl) _ _ _ (by omega) trivial
  rw [hv] at key
  exact key
end Go.Proofs.Ythmkgdlmegohoaa.Q
