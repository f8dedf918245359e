/- The two programs agree whether two lists have the same levels: for every two lists. -/
import Derived.Test.YtfijknfdimcjhaaQf8
import Derived.Test.YtfijknfdimcjhaaLaLevel
set_option linter.unusedVariables false
set_option linter.unusedSimpArgs false
namespace Go.Proofs.Ytfijknfdimcjhaa.Q
open Go.RowKit Go.Proofs.YtfijknfdimcjhaaW.PrintWords Go.Proofs.Ytfijknfdimcjhaa.Gen
def fromB (f : Nat → Bool) (M n : Nat) : Bool := (List.range M).all (fun q => decide (q < n) || f q)
theorem fromB_yes (f : Nat → Bool) (M n : Nat) (h : f n = true) : fromB f M n = fromB f M (n + 1) := by
  have e : (fun q => decide (q < n) || f q) = (fun q => decide (q < n + 1) || f q) := by
    funext q
    by_cases hq : q = n
    · rw [hq, h, Bool.or_true, Bool.or_true]
    · rw [show decide (q < n) = decide (q < n + 1) from decide_eq_decide.2 (by omega)]
  unfold fromB
  rw [e]
theorem fromB_no (f : Nat → Bool) (M n : Nat) (hn : n < M) (h : f n = false) : fromB f M n = false := by
  unfold fromB
  rw [Bool.eq_false_iff]
  intro hp
  have := List.all_eq_true.1 hp n (List.mem_range.2 hn)
  rw [h, Bool.or_false, decide_eq_true_eq] at this
  exact absurd this (Nat.lt_irrefl n)
theorem fromB_zero (f : Nat → Bool) (M : Nat) : fromB f M 0 = (List.range M).all f := by
  unfold fromB
  rw [show (fun q => decide (q < 0) || f q) = f from funext fun q => by rw [decide_eq_false (Nat.not_lt_zero q), Bool.false_or]]
theorem fromB_end (f : Nat → Bool) (M : Nat) : fromB f M M = true := by
  unfold fromB
  rw [List.all_eq_true]
  intro q hq
  rw [decide_eq_true (List.mem_range.1 hq), Bool.true_or]
def restV (l m : List S25) (n : Nat) : Bool × Bool := (fromB (sameAt l m) 10800 n, true)
theorem restV_yes (l m : List S25) (n : Nat) (h : sameAt l m n = true) : restV l m n = restV l m (n + 1) := congrArg (fun b => (b, true)) (fromB_yes _ _ _ h)
theorem restV_no (l m : List S25) (n : Nat) (hn : n < 10800) (h : sameAt l m n = false) : restV l m n = (false, true) := congrArg (fun b => (b, true)) (fromB_no _ _ _ hn h)
theorem restV_end (l m : List S25) : restV l m 10800 = (true, true) := congrArg (fun b => (b, true)) (fromB_end _ _)
theorem sameUp_eq (l m : List S25) (n : Nat) : sameUpTo l m n = (List.range n).all (sameAt l m) := rfl
theorem rest_same (l m : List S25) : restV l m 0 = (sameUpTo l m 10800, true) := by
  rw [sameUp_eq]
  exact congrArg (fun b => (b, true)) (fromB_zero _ _)
attribute [local irreducible] restV sameUpTo
theorem sameAt_eq (l m : List S25) (t a h : Nat) (ht : t < 5) (ha : a < 9) (hh : h < 240) : sameAt l m (t * 2160 + a * 240 + h) = (lvl l ((t + 1 : Nat) : Int) ((a + 1 : Nat) : Int) (h : Int) == lvl m ((t + 1 : Nat) : Int) ((a + 1 : Nat) : Int) (h : Int)) := by
  have e1 : (t * 2160 + a * 240 + h) / 2160 = t := by omega
  have e2 : (t * 2160 + a * 240 + h) % 2160 / 240 = a := by omega
  have e3 : (t * 2160 + a * 240 + h) % 240 = h := by omega
  unfold sameAt
  rw [e1, e2, e3]
  rfl
theorem ev_same_l2 (l m : List S25) (hl : l.length ≤ 4611686018427387904) (hm : m.length ≤ 4611686018427387904) (t a : Nat) (ht : t < 5) (ha : a < 9) (hn : Ev (fun k => spec_SameStates.l1 k l m ((t + 1 : Nat) : Int) ((a + 2 : Nat) : Int)) (restV l m (t * 2160 + (a + 1) * 240))) :
    ∀ (d h : Nat), h + d = 240 → Ev (fun k => spec_SameStates.l2 k l m ((t + 1 : Nat) : Int) ((a + 1 : Nat) : Int) (h : Int)) (restV l m (t * 2160 + a * 240 + h)) := by
  intro d
  induction d with
  | zero =>
    intro h hh
    have hh' : h = 240 := by omega
    subst hh'
    refine Ev.unr ?_
    simp only [spec_SameStates.l2]
    refine Ev.congr (fun k => if_neg (by omega)) ?_
    rw [wrapS (a + 1) (by omega), show t * 2160 + a * 240 + 240 = t * 2160 + (a + 1) * 240 by omega]
    exact hn
  | succ d ih =>
    intro h hh
    refine Ev.unr ?_
    simp only [spec_SameStates.l2]
    refine Ev.congr (fun k => if_pos (by omega)) ?_
    refine Ev.bind (f := fun k t => _) (ev_l15Level l hl _ _ _) ?_
    refine Ev.bind (f := fun k t => _) (ev_l15Level m hm _ _ _) ?_
    have e := sameAt_eq l m t a h ht ha (by omega)
    by_cases hs : lvl l ((t + 1 : Nat) : Int) ((a + 1 : Nat) : Int) (h : Int) = lvl m ((t + 1 : Nat) : Int) ((a + 1 : Nat) : Int) (h : Int)
    · refine Ev.congr (fun k => if_pos hs) ?_
      rw [restV_yes l m _ (by rw [e]; simpa using hs), wrapS h (by omega)]
      rw [show t * 2160 + a * 240 + h + 1 = t * 2160 + a * 240 + (h + 1) from Nat.add_assoc _ _ _]
      exact ih (h + 1) (by omega)
    · refine Ev.congr (fun k => if_neg hs) ?_
      rw [restV_no l m _ (by omega) (by rw [e]; simpa using hs)]
      exact Ev.now _
theorem ev_same_l1 (l m : List S25) (hl : l.length ≤ 4611686018427387904) (hm : m.length ≤ 4611686018427387904) (t : Nat) (ht : t < 5) (hn : Ev (fun k => spec_SameStates.l0 k l m ((t + 2 : Nat) : Int)) (restV l m ((t + 1) * 2160))) :
    ∀ (d a : Nat), a + d = 9 → Ev (fun k => spec_SameStates.l1 k l m ((t + 1 : Nat) : Int) ((a + 1 : Nat) : Int)) (restV l m (t * 2160 + a * 240)) := by
  intro d
  induction d with
  | zero =>
    intro a ha
    have ha' : a = 9 := by omega
    subst ha'
    refine Ev.unr ?_
    simp only [spec_SameStates.l1]
    refine Ev.congr (fun k => if_neg (by omega)) ?_
    rw [wrapS (t + 1) (by omega), show t * 2160 + 9 * 240 = (t + 1) * 2160 by omega]
    exact hn
  | succ d ih =>
    intro a ha
    refine Ev.unr ?_
    simp only [spec_SameStates.l1]
    refine Ev.congr (fun k => if_pos (by omega)) ?_
    rw [show t * 2160 + a * 240 = t * 2160 + a * 240 + 0 from (Nat.add_zero _).symm]
    have e2 : (a + 1) + d = 9 := by omega
    exact ev_same_l2 l m hl hm t a ht (by omega) (ih (a + 1) e2) 240 0 (by omega)
theorem ev_same_l0 (l m : List S25) (hl : l.length ≤ 4611686018427387904) (hm : m.length ≤ 4611686018427387904) : ∀ (d t : Nat), t + d = 5 → Ev (fun k => spec_SameStates.l0 k l m ((t + 1 : Nat) : Int)) (restV l m (t * 2160)) := by
  intro d
  induction d with
  | zero =>
    intro t ht
    have ht' : t = 5 := by omega
    subst ht'
    rw [show 5 * 2160 = 10800 from rfl, restV_end]
    refine Ev.unr (Ev.eq_now fun k => ?_)
    simp only [spec_SameStates.l0]
    rw [if_neg (by omega)]
  | succ d ih =>
    intro t ht
    refine Ev.unr ?_
    simp only [spec_SameStates.l0]
    refine Ev.congr (fun k => if_pos (by omega)) ?_
    have e2 : (t + 1) + d = 5 := by omega
    have key := ev_same_l1 l m hl hm t (by omega) (ih (t + 1) e2) 9 0 (by omega)
    rw [show t * 2160 + 0 * 240 = t * 2160 from by omega] at key
    exact key
def sameR (l m : List S25) : Bool × Bool := if consB l = true ∧ consB m = true then (sameUpTo l m 10800, true) else (false, false)
theorem ev_specSame (l m : List S25) (hl : l.length ≤ 4611686018427387904) (hm : m.length ≤ 4611686018427387904) : Ev (fun k => spec_SameStates.f k l m) (sameR l m) := by
  unfold spec_SameStates.f sameR
  refine Ev.bind (f := fun k t => _) (ev_l14List l) ?_
  by_cases h1 : consB l = true
  · refine Ev.congr (fun k => if_pos h1) ?_
    refine Ev.bind (f := fun k t => _) (ev_l14List m) (Ev.unr ?_)
    by_cases h2 : consB m = true
    · rw [if_pos ⟨h1, h2⟩, ← rest_same]
      simp only [spec_SameStates.j0]
      refine Ev.congr (fun k => if_neg (by rw [h2]; simp)) ?_
      exact ev_same_l0 l m hl hm 5 0 (by omega)
    · rw [if_neg (fun h => h2 h.2)]
      simp only [spec_SameStates.j0]
      refine Ev.congr (fun k => if_pos (by simp [h2])) ?_
      exact Ev.now _
  · rw [if_neg (fun h => h1 h.1)]
    refine Ev.congr (fun k => if_neg h1) (Ev.unr ?_)
    simp only [spec_SameStates.j0]
    exact Ev.now _
theorem ev_implSame (l m : List S25) (hl : l.length ≤ 4611686018427387904) (hm : m.length ≤ 4611686018427387904) : Ev (fun k => impl_SameStates.f k l m) (sameR l m) := by
  unfold impl_SameStates.f sameR
  refine Ev.congr (fun k => if_pos ⟨hl, hm⟩) ?_
  refine Ev.bind (f := fun k t => _) (ev_IsConsistent l hl) ?_
  by_cases h1 : consB l = true
  · refine Ev.congr (fun k => if_pos h1) ?_
    refine Ev.bind (f := fun k t => _) (ev_IsConsistent m hm) ?_
    by_cases h2 : consB m = true
    · refine Ev.congr (fun k => if_pos h2) ?_
      rw [if_pos ⟨h1, h2⟩]
      exact Ev.now _
    · refine Ev.congr (fun k => if_neg h2) ?_
      rw [if_neg (fun h => h2 h.2)]
      exact Ev.now _
  · refine Ev.congr (fun k => if_neg h1) ?_
    rw [if_neg (fun h => h1 h.1)]
    exact Ev.now _
end Go.Proofs.Ytfijknfdimcjhaa.Q
namespace Go.Proofs.Ytfijknfdimcjhaa.Pure
open Go.RowKit Go.Proofs.YtfijknfdimcjhaaW.PrintWords Go.Proofs.Ytfijknfdimcjhaa.Tells Go.Proofs.Ytfijknfdimcjhaa.Q Go.Proofs.Ytfijknfdimcjhaa.Gen
theorem FnExactSameStates : ∀ (l0 : List S23) (l1 : List S23), l0.length ≤ maxLen → (∀ x ∈ l0, G23 x) → l1.length ≤ maxLen → (∀ x ∈ l1, G23 x) → ∃ k, laws_FnExactSameStates.f k l0 l1 = some true := by
  intro l m hl _ hm _
  refine Ev.rounds ?_
  unfold laws_FnExactSameStates.f
  refine Ev.bind (f := fun k t => _) (Ev.eq_now fun k => szW_f l 1048576 (by omega) hl) ?_
  by_cases h : (l.length : Int) ≤ 1048576
  · rw [if_pos h]
    refine Ev.congr (fun k => if_neg (by omega)) ?_
    refine Ev.bind (f := fun k t => _) (Ev.eq_now fun k => szW_f m _ (by omega) hm) ?_
    by_cases h2 : (m.length : Int) ≤ 1048576 - l.length
    · rw [if_pos h2]
      refine Ev.congr (fun k => if_neg (by omega)) ?_
      have hc := ev_toW l (by omega)
      have hd := ev_toW m (by omega)
      have hw : (wconv l).length ≤ 4611686018427387904 := by rw [wconv_length]; omega
      have hv : (wconv m).length ≤ 4611686018427387904 := by rw [wconv_length]; omega
      refine Ev.bind (f := fun k t => _) hc ?_
      refine Ev.bind (f := fun k t => _) hd ?_
      refine Ev.bind (f := fun k t => _) (ev_specSame _ _ hw hv) ?_
      refine Ev.bind (f := fun k t => _) hc ?_
      refine Ev.bind (f := fun k t => _) hd ?_
      refine Ev.bind (f := fun k t => _) (ev_implSame _ _ hw hv) ?_
      refine Ev.congr (fun k => if_neg (by simp)) (Ev.unr ?_)
      simp only [laws_FnExactSameStates.j0, bne_self_eq_false, Bool.false_eq_true, if_false]
      refine Ev.bind (f := fun k t => _) hc ?_
      refine Ev.bind (f := fun k t => _) (ev_eqW _ hw) ?_
      refine Ev.congr (fun k => if_pos rfl) ?_
      refine Ev.bind (f := fun k t => _) hd ?_
      exact Ev.bind (f := fun k t => _) (ev_eqW _ hv) (Ev.now _)
    · rw [if_neg h2]
      exact Ev.now _
  · rw [if_neg h]
    exact Ev.now _
end Go.Proofs.Ytfijknfdimcjhaa.Pure
