/- The two programs name the same neighbors of an area: for every map and area. -/
import Derived.Test.YtlcpbhcgncljiaaQf7
import Derived.Test.YtlcpbhcgncljiaaLaBorder
import Derived.Test.YtlcpbhcgncljiaaLaMarksA
namespace Go.Proofs.Ytlcpbhcgncljiaa.Q
open Go.RowKit Go.Proofs.YtlcpbhcgncljiaaW.PrintWords Go.Proofs.Ytlcpbhcgncljiaa.Gen
set_option linter.unusedVariables false
set_option linter.unusedSimpArgs false
/-- The neighbors of an area among those below n. -/
def nearTo (w h : Int) (l : List Int) (a : Int) : Nat → List Int
  | 0 => []
  | n + 1 => if ((n : Int) + 1 ≠ a ∧ 0 < common w h l a ((n : Int) + 1)) then nearTo w h l a n ++ [(n : Int) + 1] else nearTo w h l a n
theorem nearTo_len (w h : Int) (l : List Int) (a : Int) (n : Nat) : (nearTo w h l a n).length ≤ n := by
  induction n with
  | zero => exact Nat.le_refl _
  | succ n ih =>
    unfold nearTo
    split
    · rw [List.length_append, List.length_cons, List.length_nil]; omega
    · omega
def neighborsR (w h : Int) (l : List Int) (a : Int) : List Int × Bool := if thereB w h l a = true then (nearTo w h l a 9, true) else ([], false)
theorem neighborsR_len (w h : Int) (l : List Int) (a : Int) : (neighborsR w h l a).1.length ≤ 9 := by
  unfold neighborsR
  split
  · exact nearTo_len w h l a 9
  · exact Nat.zero_le _
theorem there_posN {w h : Int} {l : List Int} {a : Int} (ht : thereB w h l a = true) : okM w h l = true ∧ 0 < a := by
  unfold thereB at ht
  simp only [Bool.and_eq_true, decide_eq_true_eq] at ht
  exact ⟨ht.1, ht.2.1⟩
theorem near_loop (w h : Int) (l : List Int) (a : Int) (g : Nat → List Int → Int → Option (List Int × Bool))
    (same : ∀ k s (i : Nat), i < 9 → (i : Int) + 1 = a → g (k + 1) s ((i : Int) + 1) = g k s ((i : Int) + 2))
    (go : ∀ s (i : Nat) r, i < 9 → s.length ≤ i → (i : Int) + 1 ≠ a → Ev (fun k => g k (if 0 < common w h l a ((i : Int) + 1) then s ++ [(i : Int) + 1] else s) ((i : Int) + 2)) r → Ev (fun k => g (k + 1) s ((i : Int) + 1)) r)
    (fin : ∀ k s, g (k + 1) s 10 = some (s, true)) : Ev (fun k => g k [] 1) (nearTo w h l a 9, true) := by
  have key : ∀ d i, i + d = 9 → Ev (fun k => g k (nearTo w h l a i) ((i : Int) + 1)) (nearTo w h l a 9, true) := by
    intro d
    induction d with
    | zero =>
      intro i hi
      obtain rfl : i = 9 := by omega
      exact Ev.unr (Ev.eq_now fun k => fin k _)
    | succ d ih =>
      intro i hi
      have h1 := ih (i + 1) (by omega)
      rw [show ((i + 1 : Nat) : Int) + 1 = (i : Int) + 2 from by omega] at h1
      refine Ev.unr ?_
      by_cases e : (i : Int) + 1 = a
      · have h2 : nearTo w h l a (i + 1) = nearTo w h l a i := if_neg (fun c => c.1 e)
        rw [h2] at h1
        exact Ev.congr (fun k => same k _ i (by omega) e) h1
      · refine go _ i _ (by omega) (nearTo_len w h l a i) e ?_
        have h2 : nearTo w h l a (i + 1) = if 0 < common w h l a ((i : Int) + 1) then nearTo w h l a i ++ [(i : Int) + 1] else nearTo w h l a i := by
          show (if _ then _ else _) = _
          by_cases c : 0 < common w h l a ((i : Int) + 1)
          · rw [if_pos ⟨e, c⟩, if_pos c]
          · rw [if_neg (fun d => c d.2), if_neg c]
        rw [← h2]
        exact h1
  exact key 9 0 (by omega)
theorem ev_specNeighbors (w h : Int) (l : List Int) (a : Int) : Ev (fun k => spec_NeighborsOf.f k w h l a) (neighborsR w h l a) := by
  unfold spec_NeighborsOf.f neighborsR
  refine Ev.bind (f := fun k t => _) (Ev.now _) ?_
  refine Ev.bind (f := fun k t => _) (ev_there w h l a) ?_
  cases ht : thereB w h l a with
  | false => exact Ev.now _
  | true =>
    refine Ev.congr (fun k => if_pos rfl) ?_
    rw [if_pos rfl]
    refine near_loop w h l a (fun k s i => spec_NeighborsOf.l0 k a s i w h l) ?_ ?_ ?_
    · intro k s i hi e
      simp only [spec_NeighborsOf.l0]
      rw [if_pos (by omega), if_pos e, show wrap64 ((i : Int) + 1 + 1) = (i : Int) + 2 from by unfold wrap64; omega]
    · intro s i r hi hs e he
      simp only [spec_NeighborsOf.l0]
      refine Ev.congr (fun k => if_pos (by omega)) (Ev.congr (fun k => if_neg e) ?_)
      refine Ev.bind (f := fun k t => _) (ev_bothBorder (there_posN ht).1 a ((i : Int) + 1) (there_posN ht).2 (by omega) (fun c => e c.symm)).1 ?_
      rw [show wrap64 ((i : Int) + 1 + 1) = (i : Int) + 2 from by unfold wrap64; omega]
      by_cases c : 0 < common w h l a ((i : Int) + 1)
      · rw [if_pos c] at he
        exact Ev.congr (fun k => if_pos c) (Ev.congr (fun k => if_pos (by omega)) he)
      · rw [if_neg c] at he
        exact Ev.congr (fun k => if_neg c) he
    · intro k s
      simp only [spec_NeighborsOf.l0]
      rw [if_neg (by omega)]
theorem ev_implNeighbors (w h : Int) (l : List Int) (a : Int) : Ev (fun k => impl_NeighborsOf.f k w h l a) (neighborsR w h l a) := by
  unfold impl_NeighborsOf.f neighborsR
  refine Ev.bind (f := fun k t => _) (ev_hasOne w h l a) ?_
  cases ht : thereB w h l a with
  | false => exact Ev.now _
  | true =>
    refine Ev.congr (fun k => if_pos rfl) ?_
    rw [if_pos rfl]
    refine near_loop w h l a (fun k s i => impl_NeighborsOf.l0 k a s i w h l) ?_ ?_ ?_
    · intro k s i hi e
      simp only [impl_NeighborsOf.l0]
      rw [if_pos (by omega), if_pos e, show wrap64 ((i : Int) + 1 + 1) = (i : Int) + 2 from by unfold wrap64; omega]
    · intro s i r hi hs e he
      simp only [impl_NeighborsOf.l0]
      refine Ev.congr (fun k => if_pos (by omega)) (Ev.congr (fun k => if_neg e) ?_)
      refine Ev.bind (f := fun k t => _) (ev_bothBorder (there_posN ht).1 a ((i : Int) + 1) (there_posN ht).2 (by omega) (fun c => e c.symm)).2 ?_
      rw [show wrap64 ((i : Int) + 1 + 1) = (i : Int) + 2 from by unfold wrap64; omega]
      by_cases c : 0 < common w h l a ((i : Int) + 1)
      · rw [if_pos c] at he
        exact Ev.congr (fun k => if_pos c) (Ev.congr (fun k => if_pos (by omega)) he)
      · rw [if_neg c] at he
        exact Ev.congr (fun k => if_neg c) he
    · intro k s
      simp only [impl_NeighborsOf.l0]
      rw [if_neg (by omega)]
end Go.Proofs.Ytlcpbhcgncljiaa.Q
set_option linter.unusedVariables false
set_option linter.unusedSimpArgs false
namespace Go.Proofs.Ytlcpbhcgncljiaa.Pure
open Go.RowKit Go.Proofs.YtlcpbhcgncljiaaW.PrintWords Go.Proofs.Ytlcpbhcgncljiaa.Tells Go.Proofs.Ytlcpbhcgncljiaa.Q Go.Proofs.Ytlcpbhcgncljiaa.Gen
theorem FnExactNeighborsOf : ∀ (x0 : S24) (a1 : Int), G24 x0 → I64 a1 → ∃ k, laws_FnExactNeighborsOf.f k x0.f0 x0.f1 x0.f2 a1 = some true := by
  rintro ⟨w, h, l⟩ a1 ⟨_, _, hl, _⟩ _
  dsimp only at hl ⊢
  refine Ev.rounds ?_
  unfold laws_FnExactNeighborsOf.f
  simp only [szA_f w h l 1048576 (by omega) hl, Option.bind_some]
  by_cases hb : (l.length : Int) ≤ 1048576
  · simp only [if_pos hb]
    refine Ev.congr (fun k => if_neg (by omega)) ?_
    have hcA := ev_toA w h l (by omega)
    have eqA := ev_eqA w h l (by omega)
    have hsp := ev_specNeighbors w h l a1
    have him := ev_implNeighbors w h l a1
    have hv := neighborsR_len w h l a1
    generalize neighborsR w h l a1 = v at hsp him hv
    repeat first
      | exact Ev.now _
      | (with_reducible refine Ev.bind (f := fun k t => _) hcA ?_)
      | (with_reducible refine Ev.bind (f := fun k t => _) hsp ?_)
      | (with_reducible refine Ev.bind (f := fun k t => _) him ?_)
      | (with_reducible refine Ev.bind (f := fun k t => _) eqA ?_)
      | (with_reducible refine Ev.bind (f := fun k t => _) (ev_eqI v.1 (by omega)) ?_)
      | (with_reducible refine Ev.bind (f := fun k t => _) (ev_markA w h l (by omega)) ?_)
      | (with_reducible refine Ev.bind (f := fun k t => _) (ev_markI v.1 (by omega)) ?_)
      | (with_reducible refine Ev.bind (f := fun k t => _) (ev_heldI v.1.length (by omega)) ?_)
      | refine Ev.congr (fun k => if_pos (by first | rfl | trivial)) ?_
      | refine Ev.congr (fun k => if_neg (by first | omega | simp)) ?_
      | simp only [bne_self_eq_false, Bool.false_eq_true, if_false]
      | (refine Ev.unr ?_; simp only [laws_FnExactNeighborsOf.j0])
      | (refine Ev.unr ?_; simp only [laws_FnExactNeighborsOf.j1])
      | (refine Ev.unr ?_; simp only [laws_FnExactNeighborsOf.j2])
  · simp only [if_neg hb]
    exact Ev.now _
end Go.Proofs.Ytlcpbhcgncljiaa.Pure
