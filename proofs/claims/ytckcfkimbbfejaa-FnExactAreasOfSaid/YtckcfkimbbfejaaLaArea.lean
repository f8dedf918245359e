/- Maps of areas in plain words: which are valid, which areas are there, the cells of an area: what both programs say. -/
import Derived.Test.YtckcfkimbbfejaaQf32
import Derived.Test.YtckcfkimbbfejaaQf60
import Derived.Test.YtckcfkimbbfejaaQf57
import Derived.Test.YtckcfkimbbfejaaQf54
import Derived.Test.YtckcfkimbbfejaaQf66
import Derived.Test.YtckcfkimbbfejaaQf34
import Derived.Test.YtckcfkimbbfejaaQf10
import Derived.Test.YtckcfkimbbfejaaQf31
import Derived.Test.YtckcfkimbbfejaaLaInts2
import Derived.Test.YtckcfkimbbfejaaArgs
namespace Go.Proofs.Ytckcfkimbbfejaa.Q
open Go.RowKit Go.Proofs.YtckcfkimbbfejaaW.PrintWords Go.Proofs.Ytckcfkimbbfejaa.Gen Go.Proofs.Ytckcfkimbbfejaa.Tells
set_option linter.unusedVariables false
set_option linter.unusedSimpArgs false
/-- A width, a height and cells. -/
def shapeB (w h : Int) (n : Nat) : Bool := decide (1 ≤ w ∧ w ≤ 8) && (decide (1 ≤ h ∧ h ≤ 8) && decide ((n : Int) = w * h))
def okM (w h : Int) (l : List Int) : Bool := shapeB w h l.length && decide (∀ x ∈ l, 0 ≤ x ∧ x ≤ 9)
theorem side_mul {w h : Int} (hw : 1 ≤ w ∧ w ≤ 8) (hh : 1 ≤ h ∧ h ≤ 8) : 1 ≤ w * h ∧ w * h ≤ 64 := by
  have : w = 1 ∨ w = 2 ∨ w = 3 ∨ w = 4 ∨ w = 5 ∨ w = 6 ∨ w = 7 ∨ w = 8 := by omega
  rcases this with rfl | rfl | rfl | rfl | rfl | rfl | rfl | rfl <;> omega
theorem shapeB_iff (w h : Int) (n : Nat) : shapeB w h n = true ↔ (1 ≤ w ∧ w ≤ 8) ∧ (1 ≤ h ∧ h ≤ 8) ∧ (n : Int) = w * h := by
  unfold shapeB
  simp only [Bool.and_eq_true, decide_eq_true_eq]
theorem shape_len {w h : Int} {n : Nat} (hs : shapeB w h n = true) : n ≤ 64 := by
  have h1 := (shapeB_iff w h n).1 hs
  have := side_mul h1.1 h1.2.1
  omega
theorem ev_goodL0 (w h : Int) (l : List Int) (hl : l.length ≤ 64) : Ev (fun k => spec_l13Good.l0 k 0 w h l) (decide (∀ x ∈ l, 0 ≤ x ∧ x ≤ 9)) := by
  have key := ev_allN (fun k i => spec_l13Good.l0 k i w h l) l.length (fun i => decide (0 ≤ l.getD i 0 ∧ l.getD i 0 ≤ 9)) true false
    (by
      intro i r hi hp he
      refine Ev.congr (fun k => ?_) he
      simp only [spec_l13Good.l0]
      rw [if_pos (by omega), if_pos (by omega), rdI, l1In_f, hp, wrapS i (by omega)]
      rfl)
    (by
      intro i hi hp
      refine Ev.eq_now fun k => ?_
      simp only [spec_l13Good.l0]
      rw [if_pos (by omega), if_pos (by omega), rdI, l1In_f, hp]
      rfl)
    (Ev.eq_now fun k => by
      simp only [spec_l13Good.l0]
      rw [if_neg (by omega)])
  have e : (if (∀ i, i < l.length → decide (0 ≤ l.getD i 0 ∧ l.getD i 0 ≤ 9) = true) then true else false) = decide (∀ x ∈ l, 0 ≤ x ∧ x ≤ 9) := by
    simp only [decide_eq_true_eq, all_getD l 0 (fun y => 0 ≤ y ∧ y ≤ 9)]
    by_cases c : ∀ x ∈ l, 0 ≤ x ∧ x ≤ 9
    · rw [if_pos c, decide_eq_true c]
    · rw [if_neg c, decide_eq_false c]
  rw [e] at key
  exact key
theorem ev_goodM (w h : Int) (l : List Int) : Ev (fun k => spec_l13Good.f k w h l) (okM w h l) := by
  unfold spec_l13Good.f okM shapeB
  have no : ∀ b, b = true → Ev (fun k => spec_l13Good.j0 k b w h l) false := by
    rintro b rfl
    exact Ev.unr (Ev.eq_now fun k => by simp only [spec_l13Good.j0]; rfl)
  simp only [l1In_f, Option.bind_some, decide_eq_true_eq]
  by_cases h1 : 1 ≤ w ∧ w ≤ 8
  · rw [decide_eq_true h1]
    refine Ev.congr (fun k => if_pos h1) ?_
    by_cases h2 : 1 ≤ h ∧ h ≤ 8
    · rw [decide_eq_true h2]
      refine Ev.congr (fun k => if_pos h2) ?_
      have hb := side_mul h1 h2
      rw [show wrap64 (w * h) = w * h from by unfold wrap64; omega]
      by_cases h3 : (l.length : Int) = w * h
      · rw [decide_eq_true h3, show ((l.length : Int) != w * h) = false from by simpa using h3]
        refine Ev.unr ?_
        simp only [spec_l13Good.j0]
        exact Ev.congr (fun k => if_neg (by decide)) (ev_goodL0 w h l (by omega))
      · rw [decide_eq_false h3, show ((l.length : Int) != w * h) = true from by simpa using h3]
        exact no _ rfl
    · rw [decide_eq_false h2]
      exact Ev.congr (fun k => if_neg h2) (no _ rfl)
  · rw [decide_eq_false h1]
    exact Ev.congr (fun k => if_neg h1) (no _ rfl)
theorem isShape_f (w h : Int) : impl_isShape.f w h = some (decide (1 ≤ w ∧ w ≤ 8) && decide (1 ≤ h ∧ h ≤ 8)) := by
  unfold impl_isShape.f
  simp only [within_f, Option.bind_some, decide_eq_true_eq]
  by_cases h1 : 1 ≤ w ∧ w ≤ 8
  · rw [if_pos h1, decide_eq_true h1]; rfl
  · rw [if_neg h1, decide_eq_false h1]; rfl
theorem ev_allWithin (l : List Int) (hl : l.length ≤ 4611686018427387904) (a b : Int) : Ev (fun k => impl_allWithin.f k l a b) (decide (∀ x ∈ l, a ≤ x ∧ x ≤ b)) := by
  unfold impl_allWithin.f
  have key := ev_allN (fun k i => impl_allWithin.l0 k a b l (l.length : Int) i) l.length (fun i => decide (a ≤ l.getD i 0 ∧ l.getD i 0 ≤ b)) true false
    (by
      intro i r hi hp he
      refine Ev.congr (fun k => ?_) he
      simp only [impl_allWithin.l0]
      rw [if_pos (by omega), if_pos (by omega), if_pos (by omega), rdI, within_f, hp, wrapS i (by omega)]
      rfl)
    (by
      intro i hi hp
      refine Ev.eq_now fun k => ?_
      simp only [impl_allWithin.l0]
      rw [if_pos (by omega), if_pos (by omega), if_pos (by omega), rdI, within_f, hp]
      rfl)
    (Ev.eq_now fun k => by
      simp only [impl_allWithin.l0]
      rw [if_neg (by omega)])
  have e : (if (∀ i, i < l.length → decide (a ≤ l.getD i 0 ∧ l.getD i 0 ≤ b) = true) then true else false) = decide (∀ x ∈ l, a ≤ x ∧ x ≤ b) := by
    simp only [decide_eq_true_eq, all_getD l 0 (fun y => a ≤ y ∧ y ≤ b)]
    by_cases c : ∀ x ∈ l, a ≤ x ∧ x ≤ b
    · rw [if_pos c, decide_eq_true c]
    · rw [if_neg c, decide_eq_false c]
  rw [e] at key
  exact key
theorem ev_validM (w h : Int) (l : List Int) : Ev (fun k => impl_IsValidAreaMap.f k w h l) (okM w h l) := by
  unfold impl_IsValidAreaMap.f okM shapeB
  simp only [isShape_f, Option.bind_some, Bool.and_eq_true, decide_eq_true_eq]
  by_cases h1 : 1 ≤ w ∧ w ≤ 8
  · by_cases h2 : 1 ≤ h ∧ h ≤ 8
    · refine Ev.congr (fun k => if_pos ⟨h1, h2⟩) ?_
      have hb := side_mul h1 h2
      rw [decide_eq_true h1, decide_eq_true h2, show wrap64 (w * h) = w * h from by unfold wrap64; omega]
      by_cases h3 : (l.length : Int) = w * h
      · rw [decide_eq_true h3]
        refine Ev.congr (fun k => if_pos h3) ?_
        exact Ev.bind (f := fun k t => _) (ev_allWithin l (by omega) 0 9) (Ev.now _)
      · rw [decide_eq_false h3]
        exact Ev.congr (fun k => if_neg h3) (Ev.now _)
    · rw [decide_eq_true h1, decide_eq_false h2]
      exact Ev.congr (fun k => if_neg (fun c => h2 c.2)) (Ev.now _)
  · rw [decide_eq_false h1]
    exact Ev.congr (fun k => if_neg (fun c => h1 c.1)) (Ev.now _)
/-- The map is valid and the area is there. -/
def thereB (w h : Int) (l : List Int) (a : Int) : Bool := okM w h l && (decide (0 < a) && decide (a ∈ l))
theorem okM_len {w h : Int} {l : List Int} (ho : okM w h l = true) : l.length ≤ 64 := by
  unfold okM at ho
  exact shape_len (Bool.and_eq_true _ _ ▸ ho).1
theorem ev_there (w h : Int) (l : List Int) (a : Int) : Ev (fun k => spec_l13There.f k w h l a) (thereB w h l a) := by
  unfold spec_l13There.f thereB
  refine Ev.bind (f := fun k t => _) (ev_goodM w h l) ?_
  cases ho : okM w h l with
  | false => exact Ev.now _
  | true =>
    refine Ev.congr (fun k => if_pos rfl) ?_
    by_cases h1 : a > 0
    · rw [show decide (0 < a) = true from decide_eq_true h1]
      refine Ev.congr (fun k => if_pos h1) ?_
      exact Ev.bind (f := fun k t => _) (ev_has l (by have := okM_len ho; omega) a) (Ev.now _)
    · rw [show decide (0 < a) = false from decide_eq_false h1]
      exact Ev.congr (fun k => if_neg h1) (Ev.now _)
theorem ev_hasAreas (w h : Int) (l : List Int) (qs : List Int) : Ev (fun k => impl_hasAreas.f k w h l qs) (okM w h l && !(qs.any (awayB l))) := by
  unfold impl_hasAreas.f
  exact Ev.bind (f := fun k t => _) (ev_validM w h l) (Ev.now _)
theorem away_not (l : List Int) (a : Int) : (!awayB l a) = (decide (0 < a) && decide (a ∈ l)) := by
  unfold awayB
  by_cases h : 0 < a
  · rw [decide_eq_true h, decide_eq_false (by omega)]; simp
  · rw [decide_eq_false h, decide_eq_true (show a < 1 from by omega)]; rfl
theorem ev_hasOne (w h : Int) (l : List Int) (a : Int) : Ev (fun k => impl_hasAreas.f k w h l [a]) (thereB w h l a) := by
  have := ev_hasAreas w h l [a]
  rw [show (okM w h l && !([a].any (awayB l))) = thereB w h l a from by unfold thereB; rw [← away_not]; simp] at this
  exact this
theorem ev_hasTwo (w h : Int) (l : List Int) (a b : Int) : Ev (fun k => impl_hasAreas.f k w h l [a, b]) (thereB w h l a && thereB w h l b) := by
  have := ev_hasAreas w h l [a, b]
  rw [show (okM w h l && !([a, b].any (awayB l))) = (thereB w h l a && thereB w h l b) from by
    unfold thereB; rw [← away_not, ← away_not]; simp only [List.any_cons, List.any_nil]; generalize okM w h l = p; generalize awayB l a = q; generalize awayB l b = r; revert p q r; decide] at this
  exact this
/-- The cells of an area. -/
def cells (l : List Int) (a : Int) : List Nat := (List.range l.length).filter fun i => l.getD i 0 == a
def icells (l : List Int) (a : Int) : List Int := (cells l a).map fun (i : Nat) => (i : Int)
theorem ev_cells (w h : Int) (l : List Int) (hl : l.length ≤ 1048576) (a : Int) : Ev (fun k => impl_cellsOf.f k w h l a) (icells l a) := by
  unfold impl_cellsOf.f
  have key := ev_fold (fun k (s : List Int) i => impl_cellsOf.l0 k a s l (l.length : Int) i) l.length (fun s i => if (l.getD i 0 == a) = true then s ++ [(i : Int)] else s) (fun s => s) (fun i s => s.length ≤ i)
    (by
      intro i s r hi hs
      by_cases e : l.getD i 0 = a
      · refine ⟨by rw [if_pos (beq_iff_eq.2 e), List.length_append]; simp; omega, fun he => Ev.congr (fun k => ?_) he⟩
        simp only [impl_cellsOf.l0]
        rw [if_pos (by omega), if_pos (by omega), if_pos (by omega), rdI, if_pos e, if_pos (by omega), wrapS i (by omega), if_pos (beq_iff_eq.2 e)]
      · refine ⟨by rw [if_neg (by simpa using e)]; omega, fun he => Ev.congr (fun k => ?_) he⟩
        simp only [impl_cellsOf.l0]
        rw [if_pos (by omega), if_pos (by omega), if_pos (by omega), rdI, if_neg e, wrapS i (by omega), if_neg (by simpa using e)])
    (by
      intro s hs
      refine Ev.eq_now fun k => ?_
      simp only [impl_cellsOf.l0]
      rw [if_neg (by omega)])
    [] (by simp)
  have e : (List.range l.length).foldl (fun (s : List Int) i => if (l.getD i 0 == a) = true then s ++ [(i : Int)] else s) [] = icells l a := by
    unfold icells cells
    have h : ∀ (q : List Nat) (s : List Int), q.foldl (fun (s : List Int) i => if (l.getD i 0 == a) = true then s ++ [(i : Int)] else s) s = s ++ (q.filter fun i => l.getD i 0 == a).map fun (i : Nat) => (i : Int) := by
      intro q
      induction q with
      | nil => intro s; simp
      | cons x q ih =>
        intro s
        rw [List.foldl_cons, ih, List.filter_cons]
        by_cases c : (l.getD x 0 == a) = true
        · rw [if_pos c, if_pos c]; simp
        · rw [if_neg c, if_neg c]
    rw [h, List.nil_append]
  rw [e] at key
  exact key
theorem cells_len (l : List Int) (a : Int) : (cells l a).length ≤ l.length := by
  unfold cells
  exact Nat.le_trans (List.length_filter_le _ _) (by simp)
/-! The laws' helpers. -/
theorem ev_toA (w h : Int) (l : List Int) (hl : l.length ≤ 1048576) : Ev (fun k => laws_toAreaMap.f k w h l) (w, h, l) := by
  unfold laws_toAreaMap.f
  exact Ev.bind (f := fun k t => _) (ev_toI l hl) (Ev.now _)
theorem ev_eqA (w h : Int) (l : List Int) (hl : l.length ≤ 1048576) : Ev (fun k => laws_eqAreaMap.f k w h l w h l) true := by
  unfold laws_eqAreaMap.f
  refine Ev.congr (fun k => if_pos rfl) (Ev.congr (fun k => if_pos rfl) ?_)
  exact Ev.bind (f := fun k t => _) (ev_eqI l (by omega)) (Ev.congr (fun k => if_pos rfl) (Ev.now _))
theorem szA_f (w h : Int) (l : List Int) (m : Int) (hm : 0 ≤ m ∧ m ≤ 1048576) (hl : l.length ≤ maxLen) : laws_szAreaMap.f w h l m = some (if (l.length : Int) ≤ m then m - l.length else -1) := by
  unfold laws_szAreaMap.f
  rw [szI_f l m hm hl]
  simp only [Option.bind_some]
  by_cases e : (l.length : Int) ≤ m
  · rw [if_pos e, if_neg (by omega)]
  · rw [if_neg e, if_pos (by omega)]
end Go.Proofs.Ytckcfkimbbfejaa.Q
