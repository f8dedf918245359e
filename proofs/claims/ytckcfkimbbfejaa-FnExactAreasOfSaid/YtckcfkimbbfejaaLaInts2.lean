/- Lists of whole numbers: copies, contents, minor helpers of both programs. -/
import Derived.Test.YtckcfkimbbfejaaQf34
import Derived.Test.YtckcfkimbbfejaaQf31
import Derived.Test.YtckcfkimbbfejaaQf33
import Derived.Test.YtckcfkimbbfejaaQf34
import Derived.Test.YtckcfkimbbfejaaQf31
import Derived.Test.YtckcfkimbbfejaaLaInts
import Derived.Test.YtckcfkimbbfejaaLaGen
namespace Go.Proofs.Ytckcfkimbbfejaa.Q
open Go.RowKit Go.Proofs.YtckcfkimbbfejaaW.PrintWords Go.Proofs.Ytckcfkimbbfejaa.Gen
set_option linter.unusedVariables false
set_option linter.unusedSimpArgs false
theorem l1In_f (a b c : Int) : spec_l1In.f a b c = some (decide (b ≤ a ∧ a ≤ c)) := by
  unfold spec_l1In.f
  by_cases h1 : a ≥ b <;> by_cases h2 : a ≤ c <;> simp [h1, h2] <;> omega
theorem szI_f (l : List Int) (m : Int) (hm : 0 ≤ m ∧ m ≤ 1048576) (h : l.length ≤ maxLen) : laws_szIntS.f l m = some (if (l.length : Int) ≤ m then m - l.length else -1) := by
  unfold maxLen at h
  unfold laws_szIntS.f
  rw [show wrap64 (m - (l.length : Int)) = m - l.length from by unfold wrap64; omega]
  by_cases e : (l.length : Int) ≤ m
  · rw [if_neg (by omega), if_pos e]
  · rw [if_pos (by omega), if_neg e]
theorem ev_toI (l : List Int) (hl : l.length ≤ 1048576) : Ev (fun k => laws_toIntS.f k l) l := by
  unfold laws_toIntS.f
  have key := ev_fold (fun k (s : List Int) i => laws_toIntS.l0 k l s i) l.length (fun s i => s.set i (l.getD i 0)) (fun s => s) (fun i s => s.length = l.length)
    (by
      intro i s r hi hs
      refine ⟨by rw [List.length_set]; exact hs, fun he => Ev.congr (fun k => ?_) he⟩
      simp only [laws_toIntS.l0]
      rw [if_pos (by omega), if_pos (by omega), if_pos (by omega), wrapS i (by omega), rdI]
      rfl)
    (by
      intro s hs
      refine Ev.eq_now fun k => ?_
      simp only [laws_toIntS.l0]
      rw [if_neg (by omega)])
    (List.replicate l.length 0) (by simp)
  have hv : (List.range l.length).foldl (fun (s : List Int) i => s.set i (l.getD i 0)) (List.replicate l.length 0) = l := by
    have h := foldl_range_inv (f := fun (s : List Int) i => s.set i (l.getD i 0)) (fun i (s : List Int) => s.length = l.length ∧ ∀ j, j < i → s[j]? = l[j]?) (n := l.length) (s := List.replicate l.length 0) ⟨by simp, fun j hj => absurd hj (Nat.not_lt_zero _)⟩
      (by
        rintro i s hi ⟨h1, h2⟩
        refine ⟨by rw [List.length_set]; exact h1, fun j hj => ?_⟩
        by_cases e : j = i
        · subst e
          rw [List.getElem?_set_self (by omega), getD_lt l 0 j hi, List.getElem?_eq_getElem hi]
        · rw [List.getElem?_set_ne (fun c => e c.symm)]
          exact h2 j (by omega))
    apply List.ext_getElem?
    intro j
    by_cases hj : j < l.length
    · exact h.2 j hj
    · rw [List.getElem?_eq_none (by omega), List.getElem?_eq_none (by omega)]
  rw [hv] at key
  refine Ev.congr (fun k => if_pos (by omega)) ?_
  refine Ev.congr (fun k => if_pos (by omega)) ?_
  exact key
theorem ev_has (l : List Int) (hl : l.length ≤ 4611686018427387904) (x : Int) : Ev (fun k => spec_l1Has.f k l x) (decide (x ∈ l)) := by
  unfold spec_l1Has.f
  have key := ev_allN (fun k i => spec_l1Has.l0 k l x i) l.length (fun i => !(l.getD i 0 == x)) false true
    (by
      intro i r hi hp he
      refine Ev.congr (fun k => ?_) he
      simp only [spec_l1Has.l0]
      have hne : ¬ l.getD i 0 = x := by simpa using hp
      rw [if_pos (by omega), if_pos (by omega), rdI, if_neg hne, wrapS i (by omega)])
    (by
      intro i hi hp
      refine Ev.eq_now fun k => ?_
      simp only [spec_l1Has.l0]
      have he : l.getD i 0 = x := by simpa using hp
      rw [if_pos (by omega), if_pos (by omega), rdI, if_pos he])
    (Ev.eq_now fun k => by
      simp only [spec_l1Has.l0]
      rw [if_neg (by omega)])
  have e : (if (∀ i, i < l.length → (!(l.getD i 0 == x)) = true) then false else true) = decide (x ∈ l) := by
    by_cases h : x ∈ l
    · rw [decide_eq_true h, if_neg]
      intro c
      have := (all_getD l 0 (fun y => (!(y == x)) = true)).1 c x h
      simp at this
    · rw [decide_eq_false h, if_pos]
      refine (all_getD l 0 (fun y => (!(y == x)) = true)).2 fun y hy => ?_
      have : y ≠ x := fun e => h (e ▸ hy)
      simpa using this
  rw [e] at key
  exact key
end Go.Proofs.Ytckcfkimbbfejaa.Q
