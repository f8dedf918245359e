/- Areas sorted out and areas counted up: the same list. -/
import Derived.Lib.SlicesCompact
namespace Go.Proofs.Ytckcfkimbbfejaa.Q
open Go.Lib
/-- The areas among 1 .. n that a list holds. -/
def areasUp (l : List Int) : Nat → List Int
  | 0 => []
  | n + 1 => if (n : Int) + 1 ∈ l then areasUp l n ++ [(n : Int) + 1] else areasUp l n
theorem strict_ext : ∀ {a b : List Int}, a.Pairwise (· < ·) → b.Pairwise (· < ·) → (∀ x, x ∈ a ↔ x ∈ b) → a = b
  | [], [], _, _, _ => rfl
  | [], y :: b, _, _, h => absurd ((h y).2 List.mem_cons_self) List.not_mem_nil
  | x :: a, [], _, _, h => absurd ((h x).1 List.mem_cons_self) List.not_mem_nil
  | x :: a, y :: b, ha, hb, h => by
    obtain ⟨ha1, ha2⟩ := List.pairwise_cons.1 ha
    obtain ⟨hb1, hb2⟩ := List.pairwise_cons.1 hb
    have e : x = y := by
      rcases List.mem_cons.1 ((h x).1 List.mem_cons_self) with e | hx
      · exact e
      · rcases List.mem_cons.1 ((h y).2 List.mem_cons_self) with e | hy
        · exact e.symm
        · have := hb1 x hx
          have := ha1 y hy
          omega
    subst e
    congr 1
    refine strict_ext ha2 hb2 fun z => ⟨fun hz => ?_, fun hz => ?_⟩
    · rcases List.mem_cons.1 ((h z).1 (List.mem_cons_of_mem _ hz)) with e | hx
      · subst e
        exact absurd (ha1 z hz) (Int.lt_irrefl _)
      · exact hx
    · rcases List.mem_cons.1 ((h z).2 (List.mem_cons_of_mem _ hz)) with e | hx
      · subst e
        exact absurd (hb1 z hz) (Int.lt_irrefl _)
      · exact hx
theorem areasUp_mem (l : List Int) (x : Int) : ∀ n, x ∈ areasUp l n ↔ 1 ≤ x ∧ x ≤ n ∧ x ∈ l
  | 0 => by simp only [areasUp, List.not_mem_nil, false_iff]; omega
  | n + 1 => by
    unfold areasUp
    have ih := areasUp_mem l x n
    split
    · rename_i hn
      rw [List.mem_append, List.mem_singleton, ih]
      constructor
      · rintro (⟨h1, h2, h3⟩ | rfl)
        · exact ⟨h1, by omega, h3⟩
        · exact ⟨by omega, by omega, hn⟩
      · rintro ⟨h1, h2, h3⟩
        by_cases e : x = (n : Int) + 1
        · exact .inr e
        · exact .inl ⟨h1, by omega, h3⟩
    · rename_i hn
      rw [ih]
      constructor
      · rintro ⟨h1, h2, h3⟩; exact ⟨h1, by omega, h3⟩
      · rintro ⟨h1, h2, h3⟩
        by_cases e : x = (n : Int) + 1
        · rw [e] at h3; exact absurd h3 hn
        · exact ⟨h1, by omega, h3⟩
theorem areasUp_strict (l : List Int) : ∀ n, (areasUp l n).Pairwise (· < ·)
  | 0 => List.Pairwise.nil
  | n + 1 => by
    unfold areasUp
    split
    · rw [List.pairwise_append]
      refine ⟨areasUp_strict l n, List.pairwise_singleton _ _, fun a ha b hb => ?_⟩
      rw [List.mem_singleton] at hb
      have := ((areasUp_mem l a n).1 ha).2.1
      omega
    · exact areasUp_strict l n
theorem areasUp_len (l : List Int) : ∀ n, (areasUp l n).length ≤ n
  | 0 => Nat.le_refl _
  | n + 1 => by
    unfold areasUp
    have := areasUp_len l n
    split
    · rw [List.length_append, List.length_singleton]; omega
    · omega
theorem at_sorted {z : List Int} (hz : z.Pairwise (· ≤ ·)) {i j : Nat} (hij : i ≤ j) (hj : j < z.length) : z.toArray[i]! ≤ z.toArray[j]! := by
  rw [getElem!_pos z.toArray i (by simpa using (by omega : i < z.length)), getElem!_pos z.toArray j (by simpa using hj)]
  simp only [List.getElem_toArray]
  rcases Nat.lt_or_eq_of_le hij with h | h
  · exact List.pairwise_iff_getElem.1 hz i j (by omega) hj h
  · subst h; exact Int.le_refl _
theorem compact_strict {z : List Int} (hz : z.Pairwise (· ≤ ·)) : (compact z).Pairwise (· < ·) := by
  unfold compact compactUpTo
  rw [List.pairwise_map]
  refine List.Pairwise.imp_of_mem ?_ (List.Pairwise.filter _ List.pairwise_lt_range)
  intro i j hi hj hlt
  obtain ⟨hj1, hj2⟩ := List.mem_filter.1 hj
  have hjn := List.mem_range.1 hj1
  have h1 := at_sorted hz (i := i) (j := j - 1) (by omega) (by omega)
  have h2 := at_sorted hz (i := j - 1) (j := j) (by omega) hjn
  have h3 : z.toArray[j]! ≠ z.toArray[j - 1]! := by
    intro e
    rw [keeps_neg (by omega) e] at hj2
    cases hj2
  omega
theorem compact_mem (z : List Int) (x : Int) : x ∈ compact z ↔ x ∈ z := by
  unfold compact compactUpTo
  rw [List.mem_map]
  have get : ∀ i, i < z.length → z.toArray[i]! ∈ z := fun i hi => by
    rw [getElem!_pos z.toArray i (by simpa using hi)]
    simp only [List.getElem_toArray]
    exact List.getElem_mem hi
  constructor
  · rintro ⟨i, hi, rfl⟩
    exact get i (List.mem_range.1 (List.mem_filter.1 hi).1)
  · intro hx
    obtain ⟨i, hi, rfl⟩ := List.getElem_of_mem hx
    have key : ∀ n, n < z.length → ∃ j, j ∈ (List.range z.length).filter (keeps z.toArray) ∧ z.toArray[j]! = z.toArray[n]! := by
      intro n
      induction n with
      | zero => exact fun h => ⟨0, List.mem_filter.2 ⟨List.mem_range.2 h, keeps_lt_one _ 0 (by omega)⟩, rfl⟩
      | succ n ih =>
        intro h
        by_cases e : z.toArray[n + 1]! = z.toArray[n + 1 - 1]!
        · obtain ⟨j, h1, h2⟩ := ih (by omega)
          exact ⟨j, h1, h2.trans e.symm⟩
        · exact ⟨n + 1, List.mem_filter.2 ⟨List.mem_range.2 h, keeps_pos e⟩, rfl⟩
    obtain ⟨j, h1, h2⟩ := key i hi
    refine ⟨j, h1, h2.trans ?_⟩
    rw [getElem!_pos z.toArray i (by simpa using hi)]
    simp only [List.getElem_toArray]
/-- What the one program sorts out is what the other one counts up. -/
theorem sorted_up (l : List Int) (h9 : ∀ x ∈ l, 0 ≤ x ∧ x ≤ 9) : (compact (l.mergeSort fun x y => decide (x ≤ y))).filter (fun x => !(x == 0)) = areasUp l 9 := by
  have hs : (l.mergeSort fun x y => decide (x ≤ y)).Pairwise (· ≤ ·) := by
    have := List.pairwise_mergeSort (le := fun x y : Int => decide (x ≤ y)) (by intro a b c; simp only [decide_eq_true_eq]; omega) (by intro a b; simp only [Bool.or_eq_true, decide_eq_true_eq]; omega) l
    exact this.imp (by intro a b hab; simpa using hab)
  refine strict_ext ((compact_strict hs).filter _) (areasUp_strict l 9) fun x => ?_
  rw [List.mem_filter, compact_mem, List.mem_mergeSort, areasUp_mem]
  constructor
  · rintro ⟨h1, h2⟩
    have := h9 x h1
    have h3 : x ≠ 0 := by simpa using h2
    exact ⟨by omega, by omega, h1⟩
  · rintro ⟨h1, h2, h3⟩
    exact ⟨h3, by simp; omega⟩
end Go.Proofs.Ytckcfkimbbfejaa.Q
