/- The laws' helpers on lists of Stretch: marks, what is held, equality. -/
import Derived.Test.YthmkgdlmegohoaaQf30
import Derived.Test.YthmkgdlmegohoaaQf35
import Derived.Test.YthmkgdlmegohoaaQf29
import Derived.Test.YthmkgdlmegohoaaEv
namespace Go.Proofs.Ythmkgdlmegohoaa.Q
open Go.RowKit Go.Proofs.YthmkgdlmegohoaaW.PrintWords Go.Proofs.Ythmkgdlmegohoaa.Gen
set_option linter.unusedVariables false
set_option linter.unusedSimpArgs false
def mkS (m : Int) : S85 := ⟨m, m + 1, m + 2⟩
def marksS (n : Nat) : List S85 := (List.range n).map fun (i : Nat) => mkS (1 + 3 * (i : Int))
theorem marksS_length (n : Nat) : (marksS n).length = n := by simp [marksS]
theorem marksS_get (n i : Nat) (hi : i < n) : (marksS n).getD i z85 = mkS (1 + 3 * (i : Int)) := by
  rw [List.getD_eq_getElem?_getD]
  simp [marksS, hi]
theorem rdVS (l : List S85) (i : Nat) : rd_T85 l (i : Int) = l.getD i z85 := rfl
theorem ev_markVS (l : List S85) (hl : l.length ≤ 1073741824) : Ev (fun k => laws_markStretchS.f k l 1) (1 + 3 * (l.length : Int), marksS l.length) := by
  unfold laws_markStretchS.f
  let f : Nat → List S85 × Int → (Int × List S85) ⊕ (List S85 × Int) := fun i s => .inr (s.1.set i (mkS s.2), s.2 + 3)
  have key := ev_run (fun k (s : List S85 × Int) i => laws_markStretchS.l0 k s.1 s.2 i) l.length f (fun s => (s.2, s.1)) (fun i s => s.1.length = l.length ∧ s.2 = 1 + 3 * (i : Int))
    (by intro i s b hi _ h; cases h)
    (by
      rintro i ⟨s1, s2⟩ s' r hi ⟨h1, h2⟩ h
      cases h
      dsimp only at h1 h2
      refine ⟨⟨by simpa using h1, by dsimp only; omega⟩, fun he => Ev.congr (fun k => ?_) he⟩
      simp only [laws_markStretchS.l0]
      rw [if_pos (by omega), if_pos (by omega), wrapS i (by omega), wrapS' (s2) (by omega) (by omega), wrapS' (s2 + 1) (by omega) (by omega), wrapS' (s2 + 1 + 1) (by omega) (by omega)]
      have e : ∀ (q : List S85) (v : S85), q.length = l.length → rd_T85 (q.set i v) (i : Int) = v := fun q v hq => by
        rw [rdVS, List.getD_eq_getElem?_getD, List.getElem?_set_self (by omega)]; rfl
      simp only [Option.bind_some, Int.toNat_natCast, e s1 _ h1, List.set_set, Int.add_assoc]
      rfl)
    (by
      rintro ⟨s1, s2⟩ ⟨h1, h2⟩
      dsimp only at h1 h2
      refine Ev.eq_now fun k => ?_
      simp only [laws_markStretchS.l0]
      rw [if_neg (by omega)])
    l.length 0 (l, 1) (by omega) ⟨rfl, by simp⟩
  have hv : run f (fun s => (s.2, s.1)) l.length 0 (l, 1) = (1 + 3 * (l.length : Int), marksS l.length) := by
    refine run_inv (n := l.length) (fun i s => s.1.length = l.length ∧ s.2 = 1 + 3 * (i : Int) ∧ ∀ j, j < i → s.1[j]? = some (mkS (1 + 3 * (j : Int)))) (fun b => b = (1 + 3 * (l.length : Int), marksS l.length)) (fun i s b _ _ h => by cases h) ?_ ?_ l.length 0 (l, 1) (by omega) ⟨rfl, by simp, fun j hj => absurd hj (Nat.not_lt_zero _)⟩
    · rintro i ⟨s1, s2⟩ s' hi ⟨h1, h2, h3⟩ h
      cases h
      dsimp only at h1 h2 h3 ⊢
      refine ⟨by simpa using h1, by omega, fun j hj => ?_⟩
      by_cases e : j = i
      · subst e
        rw [List.getElem?_set_self (by omega), h2]
      · rw [List.getElem?_set_ne (by omega)]
        exact h3 j (by omega)
    · rintro ⟨s1, s2⟩ ⟨h1, h2, h3⟩
      dsimp only at h1 h2 h3 ⊢
      rw [h2]
      congr 1
      apply List.ext_getElem?
      intro j
      by_cases hj : j < l.length
      · rw [h3 j hj]
        simp [marksS, hj]
      · rw [List.getElem?_eq_none (by omega), List.getElem?_eq_none (by rw [marksS_length]; omega)]
  rw [hv] at key
  exact key
theorem ev_heldVS (n : Nat) (hn : n ≤ 1073741824) : Ev (fun k => laws_heldStretchS.f k (marksS n) 1) (1 + 3 * (n : Int)) := by
  unfold laws_heldStretchS.f
  have key := ev_run (fun k (s : Int) i => laws_heldStretchS.l0 k (marksS n) s i) n (fun i s => .inr (s + 3)) (fun s => s) (fun i s => s = 1 + 3 * (i : Int))
    (by intro i s b hi _ h; cases h)
    (by
      intro i s s' r hi h1 h
      cases h
      refine ⟨by omega, fun he => Ev.congr (fun k => ?_) he⟩
      simp only [laws_heldStretchS.l0]
      rw [marksS_length, if_pos (by omega), if_pos (by omega), rdVS, marksS_get n i hi, wrapS i (by omega), wrapS' (s) (by omega) (by omega), wrapS' (s + 1) (by omega) (by omega), wrapS' (s + 1 + 1) (by omega) (by omega)]
      simp only [mkS, Int.add_assoc, ← h1]
      simp only [Int.reduceAdd, if_true])
    (by
      intro s h1
      refine Ev.eq_now fun k => ?_
      simp only [laws_heldStretchS.l0]
      rw [marksS_length, if_neg (by omega)])
    n 0 1 (by omega) (by simp)
  have hv : run (fun i (s : Int) => (.inr (s + 3) : Int ⊕ Int)) (fun s => s) n 0 1 = 1 + 3 * (n : Int) :=
    run_inv (n := n) (fun i s => s = 1 + 3 * (i : Int)) (fun b => b = 1 + 3 * (n : Int)) (fun i s b _ _ h => by cases h) (fun i s s' _ h1 h => by cases h; omega) (fun s h1 => h1) n 0 1 (by omega) (by simp)
  rw [hv] at key
  exact key
theorem ev_eqVS (l : List S85) (hl : l.length ≤ 4611686018427387904) : Ev (fun k => laws_eqStretchS.f k l l) true := by
  unfold laws_eqStretchS.f
  refine Ev.congr (f := fun k => laws_eqStretchS.l0 k l l ((0 : Nat) : Int)) (fun k => by rw [if_pos rfl]; rfl) ?_
  have key := ev_run (fun k (s : Unit) i => laws_eqStretchS.l0 k l l i) l.length (fun _ _ => .inr ()) (fun _ => true) (fun _ _ => True)
    (by intro i s b hi _ h; cases h)
    (by
      intro i s s' r hi hs h
      refine ⟨trivial, fun he => Ev.congr (fun k => ?_) he⟩
      have e : ∀ y : S85, laws_eqStretch.f y.f0 y.f1 y.f2 y.f0 y.f1 y.f2 = some true := fun y => by unfold laws_eqStretch.f; simp
      simp only [laws_eqStretchS.l0]
      rw [if_pos (by omega), if_pos (by omega), if_pos (by omega), rdVS, e, wrapS i (by omega)]
      rfl)
    (by
      intro s _
      refine Ev.eq_now fun k => ?_
      simp only [laws_eqStretchS.l0]
      rw [if_neg (by omega)])
    l.length 0 () (by omega) trivial
  have hv : run (fun _ (_ : Unit) => (.inr () : Bool ⊕ Unit)) (fun _ => true) l.length 0 () = true :=
    run_inv (n := l.length) (fun _ _ => True) (fun b => b = true) (fun i s b _ _ h => by cases h) (fun _ _ _ _ _ _ => trivial) (fun _ _ => rfl) _ _ _ (by omega) trivial
  rw [hv] at key
  exact key
end Go.Proofs.Ythmkgdlmegohoaa.Q
