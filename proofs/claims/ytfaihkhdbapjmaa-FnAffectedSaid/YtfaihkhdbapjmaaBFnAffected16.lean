/- Texts of this claim, put together: walks of the program's functions, and plain facts. -/
import Derived.Test.YtfaihkhdbapjmaaZFnAffected
import Derived.Lib.SlicesCompact
import Derived.Laws.BitsLemmas
import Derived.Test.YtfaihkhdbapjmaaBFnAffected0
import Derived.Test.YtfaihkhdbapjmaaBFnAffected3
import Derived.Test.YtfaihkhdbapjmaaBFnAffected7
import Derived.Test.YtfaihkhdbapjmaaBFnAffected8
import Derived.Test.YtfaihkhdbapjmaaBFnAffected9
import Derived.Test.YtfaihkhdbapjmaaBFnAffected10
import Derived.Test.YtfaihkhdbapjmaaBFnAffected11
import Derived.Test.YtfaihkhdbapjmaaBFnAffected12
import Derived.Test.YtfaihkhdbapjmaaBFnAffected13
import Derived.Test.YtfaihkhdbapjmaaBFnAffected15
namespace Go.Proofs.Ytfaihkhdbapjmaa.Gen
open Go.RowKit Go.Proofs.YtfaihkhdbapjmaaW.PrintWords
set_option linter.unusedVariables false
set_option linter.unusedSimpArgs false
theorem ev_foldFrom {σ β : Type} (g : Nat → σ → Int → Option β) (n : Nat) (f : σ → Nat → σ) (e : σ → β) (Inv : Nat → σ → Prop)
    (goon : ∀ i s r, i < n → Inv i s → Inv (i + 1) (f s i) ∧ (Ev (fun k => g k (f s i) ((i + 1 : Nat) : Int)) r → Ev (fun k => g (k + 1) s (i : Int)) r))
    (fin : ∀ s, Inv n s → Ev (fun k => g (k + 1) s (n : Int)) (e s)) :
    ∀ d m s, m + d = n → Inv m s → Ev (fun k => g k s (m : Int)) (e ((List.range' m d).foldl f s)) := by
  intro d
  induction d with
  | zero =>
    intro m s hm hs
    obtain rfl : m = n := by omega
    exact Ev.unr (fin s hs)
  | succ d ih =>
    intro m s hm hs
    rw [List.range'_succ, List.foldl_cons]
    obtain ⟨h1, h2⟩ := goon m s (e ((List.range' (m + 1) d).foldl f (f s m))) (by omega) hs
    exact Ev.unr (h2 (ih (m + 1) _ (by omega) h1))
theorem ev_fold {σ β : Type} (g : Nat → σ → Int → Option β) (n : Nat) (f : σ → Nat → σ) (e : σ → β) (Inv : Nat → σ → Prop)
    (goon : ∀ i s r, i < n → Inv i s → Inv (i + 1) (f s i) ∧ (Ev (fun k => g k (f s i) ((i + 1 : Nat) : Int)) r → Ev (fun k => g (k + 1) s (i : Int)) r))
    (fin : ∀ s, Inv n s → Ev (fun k => g (k + 1) s (n : Int)) (e s)) (s : σ) (hs : Inv 0 s) :
    Ev (fun k => g k s 0) (e ((List.range n).foldl f s)) := by
  rw [List.range_eq_range']
  exact ev_foldFrom g n f e Inv goon fin n 0 s (by omega) hs
theorem ev_allN {β : Type} (g : Nat → Int → Option β) (n : Nat) (P : Nat → Bool) (yes no : β)
    (goon : ∀ i r, i < n → P i = true → Ev (fun k => g k ((i + 1 : Nat) : Int)) r → Ev (fun k => g (k + 1) (i : Int)) r)
    (stop : ∀ i, i < n → P i = false → Ev (fun k => g (k + 1) (i : Int)) no)
    (fin : Ev (fun k => g (k + 1) (n : Int)) yes) :
    Ev (fun k => g k 0) (if (∀ i, i < n → P i = true) then yes else no) := by
  have key := ev_run (fun k (_ : Unit) i => g k i) n (fun j (_ : Unit) => if P j = true then .inr () else .inl no) (fun _ => yes) (fun _ _ => True)
    (by
      intro i s b hi _ h
      cases hp : P i with
      | true => rw [hp] at h; cases h
      | false =>
        rw [hp] at h
        cases h
        exact stop i hi hp)
    (by
      intro i s s' r hi _ h
      cases hp : P i with
      | true => exact ⟨trivial, fun he => goon i r hi hp he⟩
      | false => rw [hp] at h; cases h)
    (fun _ _ => fin) n 0 () (by omega) trivial
  rw [run_all P no yes n n 0 (by omega)] at key
  by_cases h : ∀ i, i < n → P i = true
  · rw [if_pos h]
    rw [if_pos (fun j hj _ => h j hj)] at key
    exact key
  · rw [if_neg h]
    rw [if_neg (fun c => h (fun j hj => c j hj (Nat.zero_le _)))] at key
    exact key
theorem all_getD {α : Type} (l : List α) (z : α) (P : α → Prop) : (∀ i, i < l.length → P (l.getD i z)) ↔ ∀ x ∈ l, P x := by
  constructor
  · intro h x hx
    obtain ⟨j, hj, rfl⟩ := List.getElem_of_mem hx
    rw [← getD_lt l z j hj]
    exact h j hj
  · intro h i hi
    rw [getD_lt l z i hi]
    exact h _ (List.getElem_mem hi)
theorem map_getD {α : Type} (l : List α) (z : α) : (List.range l.length).map (fun i => l.getD i z) = l := by
  apply List.ext_getElem
  · simp
  · intro i h1 h2
    rw [List.getElem_map, List.getElem_range, getD_lt l z i h2]
theorem foldl_getD {α σ : Type} (l : List α) (z : α) (h : σ → α → σ) (s : σ) : (List.range l.length).foldl (fun s i => h s (l.getD i z)) s = l.foldl h s := by
  have e := map_getD l z
  calc (List.range l.length).foldl (fun s i => h s (l.getD i z)) s = ((List.range l.length).map (fun i => l.getD i z)).foldl h s := by rw [List.foldl_map]
    _ = l.foldl h s := by rw [e]
theorem foldl_filter_append {α : Type} (p : α → Bool) (l : List α) : ∀ s : List α, l.foldl (fun s x => if p x = true then s ++ [x] else s) s = s ++ l.filter p := by
  induction l with
  | nil => intro s; simp
  | cons x l ih =>
    intro s
    rw [List.foldl_cons, ih, List.filter_cons]
    by_cases h : p x = true
    · rw [if_pos h, if_pos h]; simp
    · rw [if_neg h, if_neg h]
theorem foldl_count {α : Type} (p : α → Bool) (l : List α) : ∀ s : Int, l.foldl (fun s x => if p x = true then s + 1 else s) s = s + ((l.filter p).length : Int) := by
  induction l with
  | nil => intro s; simp
  | cons x l ih =>
    intro s
    rw [List.foldl_cons, ih, List.filter_cons]
    by_cases h : p x = true
    · rw [if_pos h, if_pos h, List.length_cons]; omega
    · rw [if_neg h, if_neg h]
end Go.Proofs.Ytfaihkhdbapjmaa.Gen
namespace Go.Proofs.Ytfaihkhdbapjmaa.Q
open Go.RowKit Go.Proofs.YtfaihkhdbapjmaaW.PrintWords Go.Proofs.Ytfaihkhdbapjmaa.Gen
set_option linter.unusedVariables false
set_option linter.unusedSimpArgs false
theorem rdI (l : List Int) (i : Nat) : rd l (i : Int) = l.getD i 0 := rfl
theorem l1In_f (a b c : Int) : spec_l1In.f a b c = some (decide (b ≤ a ∧ a ≤ c)) := by
  unfold spec_l1In.f
  by_cases h1 : a ≥ b <;> by_cases h2 : a ≤ c <;> simp [h1, h2] <;> omega
theorem ev_has (l : List Int) (hl : l.length ≤ 4611686018427387904) (x : Int) : Ev (fun k => spec_l1Has.f k l x) (decide (x ∈ l)) := by
  unfold spec_l1Has.f
  have key := ev_allN (fun k i => spec_l1Has.l0 k l x i) l.length (fun i => !(l.getD i 0 == x)) false true
    (by
      intro i r hi hp he
      refine Ev.congr (fun k => ?_) he
      simp only [spec_l1Has.l0]
      have hne : ¬ l.getD i 0 = x := by simpa using hp
      rw [if_pos (by omega), if_pos (by omega), rdI, if_neg hne, wrapS i (by omega)])
    (by
      intro i hi hp
      refine Ev.eq_now fun k => ?_
      simp only [spec_l1Has.l0]
      have he : l.getD i 0 = x := by simpa using hp
      rw [if_pos (by omega), if_pos (by omega), rdI, if_pos he])
    (Ev.eq_now fun k => by
      simp only [spec_l1Has.l0]
      rw [if_neg (by omega)])
  have e : (if (∀ i, i < l.length → (!(l.getD i 0 == x)) = true) then false else true) = decide (x ∈ l) := by
    by_cases h : x ∈ l
    · rw [decide_eq_true h, if_neg]
      intro c
      have := (all_getD l 0 (fun y => (!(y == x)) = true)).1 c x h
      simp at this
    · rw [decide_eq_false h, if_pos]
      refine (all_getD l 0 (fun y => (!(y == x)) = true)).2 fun y hy => ?_
      have : y ≠ x := fun e => h (e ▸ hy)
      simpa using this
  rw [e] at key
  exact key
end Go.Proofs.Ytfaihkhdbapjmaa.Q
namespace Go.Proofs.Ytfaihkhdbapjmaa.Q
open Go.RowKit Go.Proofs.YtfaihkhdbapjmaaW.PrintWords Go.Proofs.Ytfaihkhdbapjmaa.Gen Go.Proofs.Ytfaihkhdbapjmaa.Tells
set_option linter.unusedVariables false
set_option linter.unusedSimpArgs false
def shapeB (w h : Int) (n : Nat) : Bool := decide (1 ≤ w ∧ w ≤ 8) && (decide (1 ≤ h ∧ h ≤ 8) && decide ((n : Int) = w * h))
def okM (w h : Int) (l : List Int) : Bool := shapeB w h l.length && decide (∀ x ∈ l, 0 ≤ x ∧ x ≤ 9)
theorem side_mul {w h : Int} (hw : 1 ≤ w ∧ w ≤ 8) (hh : 1 ≤ h ∧ h ≤ 8) : 1 ≤ w * h ∧ w * h ≤ 64 := by
  have : w = 1 ∨ w = 2 ∨ w = 3 ∨ w = 4 ∨ w = 5 ∨ w = 6 ∨ w = 7 ∨ w = 8 := by omega
  rcases this with rfl | rfl | rfl | rfl | rfl | rfl | rfl | rfl <;> omega
theorem shapeB_iff (w h : Int) (n : Nat) : shapeB w h n = true ↔ (1 ≤ w ∧ w ≤ 8) ∧ (1 ≤ h ∧ h ≤ 8) ∧ (n : Int) = w * h := by
  unfold shapeB
  simp only [Bool.and_eq_true, decide_eq_true_eq]
theorem shape_len {w h : Int} {n : Nat} (hs : shapeB w h n = true) : n ≤ 64 := by
  have h1 := (shapeB_iff w h n).1 hs
  have := side_mul h1.1 h1.2.1
  omega
theorem ev_goodL0 (w h : Int) (l : List Int) (hl : l.length ≤ 64) : Ev (fun k => spec_l13Good.l0 k 0 w h l) (decide (∀ x ∈ l, 0 ≤ x ∧ x ≤ 9)) := by
  have key := ev_allN (fun k i => spec_l13Good.l0 k i w h l) l.length (fun i => decide (0 ≤ l.getD i 0 ∧ l.getD i 0 ≤ 9)) true false
    (by
      intro i r hi hp he
      refine Ev.congr (fun k => ?_) he
      simp only [spec_l13Good.l0]
      rw [if_pos (by omega), if_pos (by omega), rdI, l1In_f, hp, wrapS i (by omega)]
      rfl)
    (by
      intro i hi hp
      refine Ev.eq_now fun k => ?_
      simp only [spec_l13Good.l0]
      rw [if_pos (by omega), if_pos (by omega), rdI, l1In_f, hp]
      rfl)
    (Ev.eq_now fun k => by
      simp only [spec_l13Good.l0]
      rw [if_neg (by omega)])
  have e : (if (∀ i, i < l.length → decide (0 ≤ l.getD i 0 ∧ l.getD i 0 ≤ 9) = true) then true else false) = decide (∀ x ∈ l, 0 ≤ x ∧ x ≤ 9) := by
    simp only [decide_eq_true_eq, all_getD l 0 (fun y => 0 ≤ y ∧ y ≤ 9)]
    by_cases c : ∀ x ∈ l, 0 ≤ x ∧ x ≤ 9
    · rw [if_pos c, decide_eq_true c]
    · rw [if_neg c, decide_eq_false c]
  rw [e] at key
  exact key
theorem ev_goodM (w h : Int) (l : List Int) : Ev (fun k => spec_l13Good.f k w h l) (okM w h l) := by
  unfold spec_l13Good.f okM shapeB
  have no : ∀ b, b = true → Ev (fun k => spec_l13Good.j0 k b w h l) false := by
    rintro b rfl
    exact Ev.unr (Ev.eq_now fun k => by simp only [spec_l13Good.j0]; rfl)
  simp only [l1In_f, Option.bind_some, decide_eq_true_eq]
  by_cases h1 : 1 ≤ w ∧ w ≤ 8
  · rw [decide_eq_true h1]
    refine Ev.congr (fun k => if_pos h1) ?_
    by_cases h2 : 1 ≤ h ∧ h ≤ 8
    · rw [decide_eq_true h2]
      refine Ev.congr (fun k => if_pos h2) ?_
      have hb := side_mul h1 h2
      rw [show wrap64 (w * h) = w * h from by unfold wrap64; omega]
      by_cases h3 : (l.length : Int) = w * h
      · rw [decide_eq_true h3, show ((l.length : Int) != w * h) = false from by simpa using h3]
        refine Ev.unr ?_
        simp only [spec_l13Good.j0]
        exact Ev.congr (fun k => if_neg (by decide)) (ev_goodL0 w h l (by omega))
      · rw [decide_eq_false h3, show ((l.length : Int) != w * h) = true from by simpa using h3]
        exact no _ rfl
    · rw [decide_eq_false h2]
      exact Ev.congr (fun k => if_neg h2) (no _ rfl)
  · rw [decide_eq_false h1]
    exact Ev.congr (fun k => if_neg h1) (no _ rfl)
theorem isShape_f (w h : Int) : impl_isShape.f w h = some (decide (1 ≤ w ∧ w ≤ 8) && decide (1 ≤ h ∧ h ≤ 8)) := by
  unfold impl_isShape.f
  simp only [within_f, Option.bind_some, decide_eq_true_eq]
  by_cases h1 : 1 ≤ w ∧ w ≤ 8
  · rw [if_pos h1, decide_eq_true h1]; rfl
  · rw [if_neg h1, decide_eq_false h1]; rfl
theorem ev_allWithin (l : List Int) (hl : l.length ≤ 4611686018427387904) (a b : Int) : Ev (fun k => impl_allWithin.f k l a b) (decide (∀ x ∈ l, a ≤ x ∧ x ≤ b)) := by
  unfold impl_allWithin.f
  have key := ev_allN (fun k i => impl_allWithin.l0 k a b l (l.length : Int) i) l.length (fun i => decide (a ≤ l.getD i 0 ∧ l.getD i 0 ≤ b)) true false
    (by
      intro i r hi hp he
      refine Ev.congr (fun k => ?_) he
      simp only [impl_allWithin.l0]
      rw [if_pos (by omega), if_pos (by omega), if_pos (by omega), rdI, within_f, hp, wrapS i (by omega)]
      rfl)
    (by
      intro i hi hp
      refine Ev.eq_now fun k => ?_
      simp only [impl_allWithin.l0]
      rw [if_pos (by omega), if_pos (by omega), if_pos (by omega), rdI, within_f, hp]
      rfl)
    (Ev.eq_now fun k => by
      simp only [impl_allWithin.l0]
      rw [if_neg (by omega)])
  have e : (if (∀ i, i < l.length → decide (a ≤ l.getD i 0 ∧ l.getD i 0 ≤ b) = true) then true else false) = decide (∀ x ∈ l, a ≤ x ∧ x ≤ b) := by
    simp only [decide_eq_true_eq, all_getD l 0 (fun y => a ≤ y ∧ y ≤ b)]
    by_cases c : ∀ x ∈ l, a ≤ x ∧ x ≤ b
    · rw [if_pos c, decide_eq_true c]
    · rw [if_neg c, decide_eq_false c]
  rw [e] at key
  exact key
theorem ev_validM (w h : Int) (l : List Int) : Ev (fun k => impl_IsValidAreaMap.f k w h l) (okM w h l) := by
  unfold impl_IsValidAreaMap.f okM shapeB
  simp only [isShape_f, Option.bind_some, Bool.and_eq_true, decide_eq_true_eq]
  by_cases h1 : 1 ≤ w ∧ w ≤ 8
  · by_cases h2 : 1 ≤ h ∧ h ≤ 8
    · refine Ev.congr (fun k => if_pos ⟨h1, h2⟩) ?_
      have hb := side_mul h1 h2
      rw [decide_eq_true h1, decide_eq_true h2, show wrap64 (w * h) = w * h from by unfold wrap64; omega]
      by_cases h3 : (l.length : Int) = w * h
      · rw [decide_eq_true h3]
        refine Ev.congr (fun k => if_pos h3) ?_
        exact Ev.bind (f := fun k t => _) (ev_allWithin l (by omega) 0 9) (Ev.now _)
      · rw [decide_eq_false h3]
        exact Ev.congr (fun k => if_neg h3) (Ev.now _)
    · rw [decide_eq_true h1, decide_eq_false h2]
      exact Ev.congr (fun k => if_neg (fun c => h2 c.2)) (Ev.now _)
  · rw [decide_eq_false h1]
    exact Ev.congr (fun k => if_neg (fun c => h1 c.1)) (Ev.now _)
def thereB (w h : Int) (l : List Int) (a : Int) : Bool := okM w h l && (decide (0 < a) && decide (a ∈ l))
theorem okM_len {w h : Int} {l : List Int} (ho : okM w h l = true) : l.length ≤ 64 := by
  unfold okM at ho
  exact shape_len (Bool.and_eq_true _ _ ▸ ho).1
theorem ev_there (w h : Int) (l : List Int) (a : Int) : Ev (fun k => spec_l13There.f k w h l a) (thereB w h l a) := by
  unfold spec_l13There.f thereB
  refine Ev.bind (f := fun k t => _) (ev_goodM w h l) ?_
  cases ho : okM w h l with
  | false => exact Ev.now _
  | true =>
    refine Ev.congr (fun k => if_pos rfl) ?_
    by_cases h1 : a > 0
    · rw [show decide (0 < a) = true from decide_eq_true h1]
      refine Ev.congr (fun k => if_pos h1) ?_
      exact Ev.bind (f := fun k t => _) (ev_has l (by have := okM_len ho; omega) a) (Ev.now _)
    · rw [show decide (0 < a) = false from decide_eq_false h1]
      exact Ev.congr (fun k => if_neg h1) (Ev.now _)
theorem ev_hasAreas (w h : Int) (l : List Int) (qs : List Int) : Ev (fun k => impl_hasAreas.f k w h l qs) (okM w h l && !(qs.any (awayB l))) := by
  unfold impl_hasAreas.f
  exact Ev.bind (f := fun k t => _) (ev_validM w h l) (Ev.now _)
theorem away_not (l : List Int) (a : Int) : (!awayB l a) = (decide (0 < a) && decide (a ∈ l)) := by
  unfold awayB
  by_cases h : 0 < a
  · rw [decide_eq_true h, decide_eq_false (by omega)]; simp
  · rw [decide_eq_false h, decide_eq_true (show a < 1 from by omega)]; rfl
theorem ev_hasOne (w h : Int) (l : List Int) (a : Int) : Ev (fun k => impl_hasAreas.f k w h l [a]) (thereB w h l a) := by
  have := ev_hasAreas w h l [a]
  rw [show (okM w h l && !([a].any (awayB l))) = thereB w h l a from by unfold thereB; rw [← away_not]; simp] at this
  exact this
def cells (l : List Int) (a : Int) : List Nat := (List.range l.length).filter fun i => l.getD i 0 == a
def icells (l : List Int) (a : Int) : List Int := (cells l a).map fun (i : Nat) => (i : Int)
theorem ev_cells (w h : Int) (l : List Int) (hl : l.length ≤ 1048576) (a : Int) : Ev (fun k => impl_cellsOf.f k w h l a) (icells l a) := by
  unfold impl_cellsOf.f
  have key := ev_fold (fun k (s : List Int) i => impl_cellsOf.l0 k a s l (l.length : Int) i) l.length (fun s i => if (l.getD i 0 == a) = true then s ++ [(i : Int)] else s) (fun s => s) (fun i s => s.length ≤ i)
    (by
      intro i s r hi hs
      by_cases e : l.getD i 0 = a
      · refine ⟨by rw [if_pos (beq_iff_eq.2 e), List.length_append]; simp; omega, fun he => Ev.congr (fun k => ?_) he⟩
        simp only [impl_cellsOf.l0]
        rw [if_pos (by omega), if_pos (by omega), if_pos (by omega), rdI, if_pos e, if_pos (by omega), wrapS i (by omega), if_pos (beq_iff_eq.2 e)]
      · refine ⟨by rw [if_neg (by simpa using e)]; omega, fun he => Ev.congr (fun k => ?_) he⟩
        simp only [impl_cellsOf.l0]
        rw [if_pos (by omega), if_pos (by omega), if_pos (by omega), rdI, if_neg e, wrapS i (by omega), if_neg (by simpa using e)])
    (by
      intro s hs
      refine Ev.eq_now fun k => ?_
      simp only [impl_cellsOf.l0]
      rw [if_neg (by omega)])
    [] (by simp)
  have e : (List.range l.length).foldl (fun (s : List Int) i => if (l.getD i 0 == a) = true then s ++ [(i : Int)] else s) [] = icells l a := by
    unfold icells cells
    have h : ∀ (q : List Nat) (s : List Int), q.foldl (fun (s : List Int) i => if (l.getD i 0 == a) = true then s ++ [(i : Int)] else s) s = s ++ (q.filter fun i => l.getD i 0 == a).map fun (i : Nat) => (i : Int) := by
      intro q
      induction q with
      | nil => intro s; simp
      | cons x q ih =>
        intro s
        rw [List.foldl_cons, ih, List.filter_cons]
        by_cases c : (l.getD x 0 == a) = true
        · rw [if_pos c, if_pos c]; simp
        · rw [if_neg c, if_neg c]
    rw [h, List.nil_append]
  rw [e] at key
  exact key
theorem cells_len (l : List Int) (a : Int) : (cells l a).length ≤ l.length := by
  unfold cells
  exact Nat.le_trans (List.length_filter_le _ _) (by simp)
def okF (w h : Int) (l : List Int) : Bool := shapeB w h l.length && decide (∀ x ∈ l, cellB x = true)
theorem okF_iff (w h : Int) (l : List Int) : okF w h l = true ↔ shapeB w h l.length = true ∧ ∀ x ∈ l, cellB x = true := by
  unfold okF
  rw [Bool.and_eq_true, decide_eq_true_eq]
theorem l2Value_f (x : Int) : spec_l2Value.f x = some (cellB x) := by
  unfold spec_l2Value.f cellB
  rw [l1In_f]
  by_cases h : x = -9999
  · rw [if_pos h, decide_eq_true h]; rfl
  · rw [if_neg h, decide_eq_false h]; rfl
theorem l2Shape_f (w h : Int) : spec_l2Shape.f w h = some (decide (1 ≤ w ∧ w ≤ 8) && decide (1 ≤ h ∧ h ≤ 8)) := by
  unfold spec_l2Shape.f
  simp only [l1In_f, Option.bind_some, decide_eq_true_eq]
  by_cases h1 : 1 ≤ w ∧ w ≤ 8
  · rw [if_pos h1, decide_eq_true h1]; rfl
  · rw [if_neg h1, decide_eq_false h1]; rfl
theorem ev_goodFL (w h : Int) (l : List Int) (hl : l.length ≤ 64) : Ev (fun k => spec_l2Good.l0 k 0 w h l) (decide (∀ x ∈ l, cellB x = true)) := by
  have key := ev_allN (fun k i => spec_l2Good.l0 k i w h l) l.length (fun i => cellB (l.getD i 0)) true false
    (by
      intro i r hi hp he
      refine Ev.congr (fun k => ?_) he
      simp only [spec_l2Good.l0]
      rw [if_pos (by omega), if_pos (by omega), rdI, l2Value_f, hp, wrapS i (by omega)]
      rfl)
    (by
      intro i hi hp
      refine Ev.eq_now fun k => ?_
      simp only [spec_l2Good.l0]
      rw [if_pos (by omega), if_pos (by omega), rdI, l2Value_f, hp]
      rfl)
    (Ev.eq_now fun k => by
      simp only [spec_l2Good.l0]
      rw [if_neg (by omega)])
  have e : (if (∀ i, i < l.length → cellB (l.getD i 0) = true) then true else false) = decide (∀ x ∈ l, cellB x = true) := by
    by_cases c : ∀ x ∈ l, cellB x = true
    · rw [if_pos ((all_getD l 0 (fun y => cellB y = true)).2 c), decide_eq_true c]
    · rw [if_neg (fun d => c ((all_getD l 0 (fun y => cellB y = true)).1 d)), decide_eq_false c]
  rw [e] at key
  exact key
theorem ev_goodF (w h : Int) (l : List Int) : Ev (fun k => spec_l2Good.f k w h l) (okF w h l) := by
  unfold spec_l2Good.f okF shapeB
  have no : ∀ b, b = true → Ev (fun k => spec_l2Good.j0 k b w h l) false := by
    rintro b rfl
    exact Ev.unr (Ev.eq_now fun k => by simp only [spec_l2Good.j0]; rfl)
  simp only [l2Shape_f, Option.bind_some, Bool.and_eq_true, decide_eq_true_eq]
  by_cases h1 : 1 ≤ w ∧ w ≤ 8
  · by_cases h2 : 1 ≤ h ∧ h ≤ 8
    · rw [decide_eq_true h1, decide_eq_true h2]
      refine Ev.congr (fun k => if_pos ⟨h1, h2⟩) ?_
      have hb := side_mul h1 h2
      rw [show wrap64 (w * h) = w * h from by unfold wrap64; omega]
      by_cases h3 : (l.length : Int) = w * h
      · rw [decide_eq_true h3, show ((l.length : Int) != w * h) = false from by simpa using h3]
        refine Ev.unr ?_
        simp only [spec_l2Good.j0]
        exact Ev.congr (fun k => if_neg (by decide)) (ev_goodFL w h l (by omega))
      · rw [decide_eq_false h3, show ((l.length : Int) != w * h) = true from by simpa using h3]
        exact no _ rfl
    · rw [decide_eq_true h1, decide_eq_false h2]
      exact Ev.congr (fun k => if_neg (fun c => h2 c.2)) (no _ rfl)
  · rw [decide_eq_false h1]
    exact Ev.congr (fun k => if_neg (fun c => h1 c.1)) (no _ rfl)
theorem not_any_not (l : List Int) (p : Int → Bool) : (!(l.any fun x => !p x)) = decide (∀ x ∈ l, p x = true) := by
  rw [Bool.eq_iff_iff, decide_eq_true_eq]
  simp
theorem validF_f (w h : Int) (l : List Int) : impl_IsValidField.f w h l = some (okF w h l) := by
  unfold impl_IsValidField.f okF shapeB
  simp only [within_f, Option.bind_some, decide_eq_true_eq]
  by_cases h1 : 1 ≤ w ∧ w ≤ 8
  · rw [if_pos h1, decide_eq_true h1]
    by_cases h2 : 1 ≤ h ∧ h ≤ 8
    · rw [if_pos h2, decide_eq_true h2]
      have hb := side_mul h1 h2
      rw [show wrap64 (w * h) = w * h from by unfold wrap64; omega, not_any_not]
      by_cases h3 : (l.length : Int) = w * h
      · rw [if_pos h3, decide_eq_true h3]; rfl
      · rw [if_neg h3, decide_eq_false h3]; rfl
    · rw [if_neg h2, decide_eq_false h2]; rfl
  · rw [if_neg h1, decide_eq_false h1]; rfl
def fitsB (w h : Int) (fw fh : Int) (fl : List Int) : Bool := okF fw fh fl && (decide (w = fw) && decide (h = fh))
theorem ev_fits (w h : Int) (l : List Int) (fw fh : Int) (fl : List Int) (ho : okM w h l = true) : Ev (fun k => spec_l13Fits.f k w h l fw fh fl) (fitsB w h fw fh fl) := by
  unfold spec_l13Fits.f fitsB
  refine Ev.bind (f := fun k t => _) (ev_goodM w h l) ?_
  refine Ev.congr (fun k => if_pos ho) ?_
  refine Ev.bind (f := fun k t => _) (ev_goodF fw fh fl) ?_
  cases okF fw fh fl with
  | false => exact Ev.now _
  | true =>
    refine Ev.congr (fun k => if_pos rfl) ?_
    by_cases h1 : w = fw
    · rw [decide_eq_true h1]
      refine Ev.congr (fun k => if_pos h1) ?_
      rw [show (h == fh) = decide (h = fh) from rfl]
      exact Ev.now _
    · rw [decide_eq_false h1]
      exact Ev.congr (fun k => if_neg h1) (Ev.now _)
theorem fitsMap_f (w h : Int) (l : List Int) (fw fh : Int) (fl : List Int) : impl_fitsMap.f w h l fw fh fl = some (fitsB w h fw fh fl) := by
  unfold impl_fitsMap.f fitsB
  rw [validF_f]
  simp only [Option.bind_some]
  cases okF fw fh fl with
  | false => rfl
  | true =>
    rw [if_pos rfl]
    by_cases h1 : w = fw
    · rw [decide_eq_true h1, if_pos h1.symm]
      by_cases h2 : h = fh
      · rw [decide_eq_true h2, show (fh == h) = true from by simpa using h2.symm]; rfl
      · rw [decide_eq_false h2, show (fh == h) = false from by simpa using fun e => h2 (Eq.symm e)]; rfl
    · rw [decide_eq_false h1, if_neg (fun e => h1 e.symm)]; rfl
def vals (l fl : List Int) (a : Int) : List Int := ((cells l a).map fun i => fl.getD i 0).filter fun v => !(v == -9999)
theorem cells_lt {l : List Int} {a : Int} {i : Nat} (h : i ∈ cells l a) : i < l.length := by
  unfold cells at h
  exact List.mem_range.1 (List.mem_filter.1 h).1
theorem fits_len {w h : Int} {l : List Int} {fw fh : Int} {fl : List Int} (ho : okM w h l = true) (hf : fitsB w h fw fh fl = true) : fl.length = l.length ∧ ∀ x ∈ fl, cellB x = true := by
  unfold fitsB at hf
  simp only [Bool.and_eq_true, decide_eq_true_eq] at hf
  obtain ⟨h1, rfl, rfl⟩ := hf
  have h2 := (okF_iff _ _ _).1 h1
  have h3 := ((shapeB_iff _ _ _).1 h2.1).2.2
  unfold okM at ho
  have h4 := ((shapeB_iff _ _ _).1 (Bool.and_eq_true _ _ ▸ ho).1).2.2
  exact ⟨by omega, h2.2⟩
theorem icells_get (l : List Int) (a : Int) (j : Nat) (hj : j < (cells l a).length) : (icells l a).getD j 0 = (((cells l a).getD j 0 : Nat) : Int) := by
  unfold icells
  rw [getD_lt _ _ j (by simpa using hj), List.getElem_map, getD_lt _ _ j hj]
theorem ev_areaValues (w h : Int) (l : List Int) (a : Int) (fw fh : Int) (fl : List Int) (hl : l.length ≤ 64) (hfl : fl.length = l.length) : Ev (fun k => impl_areaValues.f k w h l a fw fh fl) (vals l fl a) := by
  unfold impl_areaValues.f
  refine Ev.bind (f := fun k t => _) (ev_cells w h l (by omega) a) ?_
  have hcl := cells_len l a
  have hil : (icells l a).length = (cells l a).length := by simp [icells]
  have key := ev_fold (fun k (s : List Int) i => impl_areaValues.l0 k s (icells l a) ((icells l a).length : Int) i fw fh fl) (cells l a).length (fun s j => if (!(fl.getD ((cells l a).getD j 0) 0 == -9999)) = true then s ++ [fl.getD ((cells l a).getD j 0) 0] else s) (fun s => s) (fun i s => s.length ≤ i)
    (by
      intro i s r hi hs
      have hm : (cells l a).getD i 0 < l.length := cells_lt (by rw [getD_lt _ _ i hi]; exact List.getElem_mem hi)
      by_cases e : fl.getD ((cells l a).getD i 0) 0 = -9999
      · have e1 : (!(fl.getD ((cells l a).getD i 0) 0 == -9999)) = false := by simpa using e
        rw [e1, if_neg (by decide)]
        refine ⟨by omega, fun he => Ev.congr (fun k => ?_) he⟩
        simp only [impl_areaValues.l0]
        rw [if_pos (by omega), if_pos (by omega), if_pos (by omega), rdI, icells_get l a i hi, if_pos (by omega), if_pos (by omega), rdI, if_pos e, wrapS i (by omega)]
      · have e1 : (!(fl.getD ((cells l a).getD i 0) 0 == -9999)) = true := by simpa using e
        rw [e1, if_pos rfl]
        refine ⟨by rw [List.length_append]; simp; omega, fun he => Ev.congr (fun k => ?_) he⟩
        simp only [impl_areaValues.l0]
        rw [if_pos (by omega), if_pos (by omega), if_pos (by omega), rdI, icells_get l a i hi, if_pos (by omega), if_pos (by omega), rdI, if_neg e, if_pos (by omega), wrapS i (by omega)])
    (by
      intro s hs
      refine Ev.eq_now fun k => ?_
      simp only [impl_areaValues.l0]
      rw [if_neg (by omega)])
    [] (by simp)
  rw [foldl_getD (cells l a) 0 (fun s x => if (!(fl.getD x 0 == -9999)) = true then s ++ [fl.getD x 0] else s)] at key
  have e : (cells l a).foldl (fun (s : List Int) x => if (!(fl.getD x 0 == -9999)) = true then s ++ [fl.getD x 0] else s) [] = vals l fl a := by
    unfold vals
    have h := foldl_filter_append (fun v : Int => !(v == -9999)) ((cells l a).map fun i => fl.getD i 0) []
    rw [List.foldl_map, List.nil_append] at h
    exact h
  rw [e] at key
  exact key
theorem vals_len (l fl : List Int) (a : Int) : (vals l fl a).length ≤ l.length := by
  unfold vals
  refine Nat.le_trans (List.length_filter_le _ _) ?_
  rw [List.length_map]
  exact cells_len l a
theorem there_ok {w h : Int} {l : List Int} {a : Int} (ht : thereB w h l a = true) : okM w h l = true := by
  unfold thereB at ht
  exact (Bool.and_eq_true _ _ ▸ ht).1
def thrB (t : Int) : Bool := decide (-9000 ≤ t ∧ t ≤ 9000)
theorem cover_fold (l fl : List Int) (a t : Int) (q : List Nat) : ∀ (n m : Int), q.foldl (fun (s : Int × Int) i => if (l.getD i 0 == a) = true then (if fl.getD i 0 = -9999 then s else (if t ≤ fl.getD i 0 then s.1 + 1 else s.1, s.2 + 1)) else s) (n, m) =
    (n + (((((q.filter fun i => l.getD i 0 == a).map fun i => fl.getD i 0).filter fun v => !(v == -9999)).filter fun v => decide (t ≤ v)).length : Int), m + ((((q.filter fun i => l.getD i 0 == a).map fun i => fl.getD i 0).filter fun v => !(v == -9999)).length : Int)) := by
  induction q with
  | nil => intro n m; simp
  | cons x q ih =>
    intro n m
    rw [List.foldl_cons, List.filter_cons]
    by_cases h1 : (l.getD x 0 == a) = true
    · rw [if_pos h1, if_pos h1, List.map_cons, List.filter_cons]
      by_cases h2 : fl.getD x 0 = -9999
      · rw [if_pos h2, show (!(fl.getD x 0 == -9999)) = false from by simpa using h2, if_neg (by decide), ih]
      · rw [if_neg h2, show (!(fl.getD x 0 == -9999)) = true from by simpa using h2, if_pos rfl, List.filter_cons, List.length_cons]
        by_cases h3 : t ≤ fl.getD x 0
        · rw [if_pos h3, ih, if_pos (decide_eq_true h3), List.length_cons]
          exact Prod.ext (by dsimp only; omega) (by dsimp only; omega)
        · rw [if_neg h3, ih, if_neg (by simpa using h3)]
          exact Prod.ext (by dsimp only) (by dsimp only; omega)
    · rw [if_neg h1, if_neg h1, ih]
theorem ev_specCov (w h : Int) (l : List Int) (a : Int) (fw fh : Int) (fl : List Int) (t : Int) (hl : l.length ≤ 64) (hfl : fl.length = l.length) :
    Ev (fun k => spec_l13Coverage.f k w h l a fw fh fl t) ((((vals l fl a).filter fun v => decide (t ≤ v)).length : Int), ((vals l fl a).length : Int)) := by
  unfold spec_l13Coverage.f
  have key := ev_fold (fun k (s : Int × Int) i => spec_l13Coverage.l0 k a t s.1 s.2 i w h l fw fh fl) l.length (fun (s : Int × Int) i => if (l.getD i 0 == a) = true then (if fl.getD i 0 = -9999 then s else (if t ≤ fl.getD i 0 then s.1 + 1 else s.1, s.2 + 1)) else s) (fun s => s) (fun i s => (0 ≤ s.1 ∧ s.1 ≤ i) ∧ (0 ≤ s.2 ∧ s.2 ≤ i))
    (by
      rintro i ⟨n, m⟩ r hi ⟨hn, hm⟩
      dsimp only at hn hm
      by_cases e : l.getD i 0 = a
      · rw [if_pos (beq_iff_eq.2 e)]
        by_cases e2 : fl.getD i 0 = -9999
        · rw [if_pos e2]
          refine ⟨⟨by dsimp only; omega, by dsimp only; omega⟩, fun he => ?_⟩
          simp only [spec_l13Coverage.l0]
          refine Ev.congr (fun k => ?_) (Ev.unr (g := fun k => spec_l13Coverage.j1 k a t n m i true w h l fw fh fl) (Ev.congr (fun k => ?_) he))
          · rw [if_pos (by omega), if_pos (by omega), rdI, if_pos e, if_pos (by omega), rdI, show (fl.getD i 0 == -9999) = true from by simpa using e2]
          · simp only [spec_l13Coverage.j1]
            rw [if_pos trivial, wrapS i (by omega)]
        · rw [if_neg e2]
          refine ⟨⟨by dsimp only; split <;> omega, by dsimp only; omega⟩, fun he => ?_⟩
          simp only [spec_l13Coverage.l0]
          refine Ev.congr (fun k => ?_) (Ev.unr (g := fun k => spec_l13Coverage.j1 k a t n m i false w h l fw fh fl) (Ev.congr (fun k => ?_) he))
          · rw [if_pos (by omega), if_pos (by omega), rdI, if_pos e, if_pos (by omega), rdI, show (fl.getD i 0 == -9999) = false from by simpa using e2]
          · simp only [spec_l13Coverage.j1]
            rw [if_neg (by decide), if_pos (by omega), if_pos (by omega), rdI, wrapS i (by omega), wrapS' m (by omega) (by omega)]
            by_cases e3 : t ≤ fl.getD i 0
            · rw [if_pos e3, if_pos e3, wrapS' n (by omega) (by omega)]
            · rw [if_neg e3, if_neg e3]
      · rw [if_neg (by simpa using e)]
        refine ⟨⟨by dsimp only; omega, by dsimp only; omega⟩, fun he => ?_⟩
        simp only [spec_l13Coverage.l0]
        refine Ev.congr (fun k => ?_) (Ev.unr (g := fun k => spec_l13Coverage.j1 k a t n m i true w h l fw fh fl) (Ev.congr (fun k => ?_) he))
        · rw [if_pos (by omega), if_pos (by omega), rdI, if_neg e]
        · simp only [spec_l13Coverage.j1]
          rw [if_pos trivial, wrapS i (by omega)])
    (by
      intro s hs
      refine Ev.eq_now fun k => ?_
      simp only [spec_l13Coverage.l0]
      rw [if_neg (by omega)])
    (0, 0) (by simp)
  rw [cover_fold, Int.zero_add, Int.zero_add] at key
  exact key
theorem ev_count (v : List Int) (hv : v.length ≤ 1048576) (t : Int) : Ev (fun k => impl_countAtLeast.f k v t) (((v.filter fun x => decide (t ≤ x)).length : Int)) := by
  unfold impl_countAtLeast.f
  have key := ev_fold (fun k (s : Int) i => impl_countAtLeast.l0 k t s v (v.length : Int) i) v.length (fun s i => if decide (t ≤ v.getD i 0) = true then s + 1 else s) (fun s => s) (fun i s => 0 ≤ s ∧ s ≤ (i : Int))
    (by
      intro i s r hi hs
      by_cases e : t ≤ v.getD i 0
      · rw [if_pos (decide_eq_true e)]
        refine ⟨by omega, fun he => Ev.congr (fun k => ?_) he⟩
        simp only [impl_countAtLeast.l0]
        rw [if_pos (by omega), if_pos (by omega), if_pos (by omega), rdI, if_pos e, wrapS i (by omega), wrapS' s hs.1 (by omega)]
      · rw [if_neg (by simpa using e)]
        refine ⟨by omega, fun he => Ev.congr (fun k => ?_) he⟩
        simp only [impl_countAtLeast.l0]
        rw [if_pos (by omega), if_pos (by omega), if_pos (by omega), rdI, if_neg e, wrapS i (by omega)])
    (by
      intro s hs
      refine Ev.eq_now fun k => ?_
      simp only [impl_countAtLeast.l0]
      rw [if_neg (by omega)])
    0 (by simp)
  rw [foldl_getD v 0 (fun s x => if decide (t ≤ x) = true then s + 1 else s), foldl_count (fun x => decide (t ≤ x)), Int.zero_add] at key
  exact key
end Go.Proofs.Ytfaihkhdbapjmaa.Q
namespace Go.Proofs.Ytfaihkhdbapjmaa.Q
open Go.Lib
def areasUp (l : List Int) : Nat → List Int
  | 0 => []
  | n + 1 => if (n : Int) + 1 ∈ l then areasUp l n ++ [(n : Int) + 1] else areasUp l n
theorem strict_ext : ∀ {a b : List Int}, a.Pairwise (· < ·) → b.Pairwise (· < ·) → (∀ x, x ∈ a ↔ x ∈ b) → a = b
  | [], [], _, _, _ => rfl
  | [], y :: b, _, _, h => absurd ((h y).2 List.mem_cons_self) List.not_mem_nil
  | x :: a, [], _, _, h => absurd ((h x).1 List.mem_cons_self) List.not_mem_nil
  | x :: a, y :: b, ha, hb, h => by
    obtain ⟨ha1, ha2⟩ := List.pairwise_cons.1 ha
    obtain ⟨hb1, hb2⟩ := List.pairwise_cons.1 hb
    have e : x = y := by
      rcases List.mem_cons.1 ((h x).1 List.mem_cons_self) with e | hx
      · exact e
      · rcases List.mem_cons.1 ((h y).2 List.mem_cons_self) with e | hy
        · exact e.symm
        · have := hb1 x hx
          have := ha1 y hy
          omega
    subst e
    congr 1
    refine strict_ext ha2 hb2 fun z => ⟨fun hz => ?_, fun hz => ?_⟩
    · rcases List.mem_cons.1 ((h z).1 (List.mem_cons_of_mem _ hz)) with e | hx
      · subst e
        exact absurd (ha1 z hz) (Int.lt_irrefl _)
      · exact hx
    · rcases List.mem_cons.1 ((h z).2 (List.mem_cons_of_mem _ hz)) with e | hx
      · subst e
        exact absurd (hb1 z hz) (Int.lt_irrefl _)
      · exact hx
theorem areasUp_mem (l : List Int) (x : Int) : ∀ n, x ∈ areasUp l n ↔ 1 ≤ x ∧ x ≤ n ∧ x ∈ l
  | 0 => by simp only [areasUp, List.not_mem_nil, false_iff]; omega
  | n + 1 => by
    unfold areasUp
    have ih := areasUp_mem l x n
    split
    · rename_i hn
      rw [List.mem_append, List.mem_singleton, ih]
      constructor
      · rintro (⟨h1, h2, h3⟩ | rfl)
        · exact ⟨h1, by omega, h3⟩
        · exact ⟨by omega, by omega, hn⟩
      · rintro ⟨h1, h2, h3⟩
        by_cases e : x = (n : Int) + 1
        · exact .inr e
        · exact .inl ⟨h1, by omega, h3⟩
    · rename_i hn
      rw [ih]
      constructor
      · rintro ⟨h1, h2, h3⟩; exact ⟨h1, by omega, h3⟩
      · rintro ⟨h1, h2, h3⟩
        by_cases e : x = (n : Int) + 1
        · rw [e] at h3; exact absurd h3 hn
        · exact ⟨h1, by omega, h3⟩
theorem areasUp_strict (l : List Int) : ∀ n, (areasUp l n).Pairwise (· < ·)
  | 0 => List.Pairwise.nil
  | n + 1 => by
    unfold areasUp
    split
    · rw [List.pairwise_append]
      refine ⟨areasUp_strict l n, List.pairwise_singleton _ _, fun a ha b hb => ?_⟩
      rw [List.mem_singleton] at hb
      have := ((areasUp_mem l a n).1 ha).2.1
      omega
    · exact areasUp_strict l n
theorem areasUp_len (l : List Int) : ∀ n, (areasUp l n).length ≤ n
  | 0 => Nat.le_refl _
  | n + 1 => by
    unfold areasUp
    have := areasUp_len l n
    split
    · rw [List.length_append, List.length_singleton]; omega
    · omega
theorem at_sorted {z : List Int} (hz : z.Pairwise (· ≤ ·)) {i j : Nat} (hij : i ≤ j) (hj : j < z.length) : z.toArray[i]! ≤ z.toArray[j]! := by
  rw [getElem!_pos z.toArray i (by simpa using (by omega : i < z.length)), getElem!_pos z.toArray j (by simpa using hj)]
  simp only [List.getElem_toArray]
  rcases Nat.lt_or_eq_of_le hij with h | h
  · exact List.pairwise_iff_getElem.1 hz i j (by omega) hj h
  · subst h; exact Int.le_refl _
theorem compact_strict {z : List Int} (hz : z.Pairwise (· ≤ ·)) : (compact z).Pairwise (· < ·) := by
  unfold compact compactUpTo
  rw [List.pairwise_map]
  refine List.Pairwise.imp_of_mem ?_ (List.Pairwise.filter _ List.pairwise_lt_range)
  intro i j hi hj hlt
  obtain ⟨hj1, hj2⟩ := List.mem_filter.1 hj
  have hjn := List.mem_range.1 hj1
  have h1 := at_sorted hz (i := i) (j := j - 1) (by omega) (by omega)
  have h2 := at_sorted hz (i := j - 1) (j := j) (by omega) hjn
  have h3 : z.toArray[j]! ≠ z.toArray[j - 1]! := by
    intro e
    rw [keeps_neg (by omega) e] at hj2
    cases hj2
  omega
theorem compact_mem (z : List Int) (x : Int) : x ∈ compact z ↔ x ∈ z := by
  unfold compact compactUpTo
  rw [List.mem_map]
  have get : ∀ i, i < z.length → z.toArray[i]! ∈ z := fun i hi => by
    rw [getElem!_pos z.toArray i (by simpa using hi)]
    simp only [List.getElem_toArray]
    exact List.getElem_mem hi
  constructor
  · rintro ⟨i, hi, rfl⟩
    exact get i (List.mem_range.1 (List.mem_filter.1 hi).1)
  · intro hx
    obtain ⟨i, hi, rfl⟩ := List.getElem_of_mem hx
    have key : ∀ n, n < z.length → ∃ j, j ∈ (List.range z.length).filter (keeps z.toArray) ∧ z.toArray[j]! = z.toArray[n]! := by
      intro n
      induction n with
      | zero => exact fun h => ⟨0, List.mem_filter.2 ⟨List.mem_range.2 h, keeps_lt_one _ 0 (by omega)⟩, rfl⟩
      | succ n ih =>
        intro h
        by_cases e : z.toArray[n + 1]! = z.toArray[n + 1 - 1]!
        · obtain ⟨j, h1, h2⟩ := ih (by omega)
          exact ⟨j, h1, h2.trans e.symm⟩
        · exact ⟨n + 1, List.mem_filter.2 ⟨List.mem_range.2 h, keeps_pos e⟩, rfl⟩
    obtain ⟨j, h1, h2⟩ := key i hi
    refine ⟨j, h1, h2.trans ?_⟩
    rw [getElem!_pos z.toArray i (by simpa using hi)]
    simp only [List.getElem_toArray]
theorem sorted_up (l : List Int) (h9 : ∀ x ∈ l, 0 ≤ x ∧ x ≤ 9) : (compact (l.mergeSort fun x y => decide (x ≤ y))).filter (fun x => !(x == 0)) = areasUp l 9 := by
  have hs : (l.mergeSort fun x y => decide (x ≤ y)).Pairwise (· ≤ ·) := by
    have := List.pairwise_mergeSort (le := fun x y : Int => decide (x ≤ y)) (by intro a b c; simp only [decide_eq_true_eq]; omega) (by intro a b; simp only [Bool.or_eq_true, decide_eq_true_eq]; omega) l
    exact this.imp (by intro a b hab; simpa using hab)
  refine strict_ext ((compact_strict hs).filter _) (areasUp_strict l 9) fun x => ?_
  rw [List.mem_filter, compact_mem, List.mem_mergeSort, areasUp_mem]
  constructor
  · rintro ⟨h1, h2⟩
    have := h9 x h1
    have h3 : x ≠ 0 := by simpa using h2
    exact ⟨by omega, by omega, h1⟩
  · rintro ⟨h1, h2, h3⟩
    exact ⟨h3, by simp; omega⟩
end Go.Proofs.Ytfaihkhdbapjmaa.Q
namespace Go.Proofs.Ytfaihkhdbapjmaa.Q
open Go.RowKit Go.Proofs.YtfaihkhdbapjmaaW.PrintWords Go.Proofs.Ytfaihkhdbapjmaa.Gen
set_option linter.unusedVariables false
set_option linter.unusedSimpArgs false
def areasR (w h : Int) (l : List Int) : List Int × Bool := if okM w h l = true then (areasUp l 9, true) else ([], false)
theorem areasR_len (w h : Int) (l : List Int) : (areasR w h l).1.length ≤ 9 := by
  unfold areasR
  split
  · exact areasUp_len l 9
  · exact Nat.zero_le _
theorem ev_implAreas (w h : Int) (l : List Int) : Ev (fun k => impl_AreasOf.f k w h l) (areasR w h l) := by
  unfold impl_AreasOf.f areasR
  refine Ev.bind (f := fun k t => _) (ev_validM w h l) ?_
  cases ho : okM w h l with
  | false => exact Ev.now _
  | true =>
    unfold okM at ho
    rw [Bool.and_eq_true] at ho
    have hs := (shapeB_iff w h l.length).1 ho.1
    have hm := side_mul hs.1 hs.2.1
    have h9 : ∀ x ∈ l, 0 ≤ x ∧ x ≤ 9 := of_decide_eq_true ho.2
    refine Ev.congr (fun k => (if_pos rfl).trans (if_pos ⟨by omega, by omega⟩)) ?_
    rw [sorted_up l h9]
    exact Ev.now _
def hiN (l fl : List Int) (t a : Int) : Int := (((vals l fl a).filter fun v => decide (t ≤ v)).length : Int)
def alN (l fl : List Int) (a : Int) : Int := ((vals l fl a).length : Int)
theorem hiN_le (l fl : List Int) (t a : Int) : 0 ≤ hiN l fl t a ∧ hiN l fl t a ≤ alN l fl a := by
  unfold hiN alN
  have := List.length_filter_le (fun v => decide (t ≤ v)) (vals l fl a)
  omega
theorem alN_le {l : List Int} (hl : l.length ≤ 64) (fl : List Int) (a : Int) : 0 ≤ alN l fl a ∧ alN l fl a ≤ 64 := by
  unfold alN
  have := vals_len l fl a
  omega
theorem vals_none {l : List Int} (fl : List Int) {a : Int} (h : a ∉ l) : vals l fl a = [] := by
  have e : cells l a = [] := by
    unfold cells
    rw [List.filter_eq_nil_iff]
    intro i hi
    have hi := List.mem_range.1 hi
    rw [getD_lt l 0 i hi]
    simp only [beq_iff_eq]
    intro c
    exact h (c ▸ List.getElem_mem hi)
  unfold vals
  rw [e]
  rfl
def hitB (l fl : List Int) (t p a : Int) : Bool := decide (0 < hiN l fl t a) && decide (p * alN l fl a ≤ 100 * hiN l fl t a)
def affUp (l fl : List Int) (t p : Int) : Nat → List Int
  | 0 => []
  | n + 1 => if hitB l fl t p ((n : Int) + 1) = true then affUp l fl t p n ++ [(n : Int) + 1] else affUp l fl t p n
theorem affUp_len (l fl : List Int) (t p : Int) : ∀ n, (affUp l fl t p n).length ≤ n
  | 0 => Nat.le_refl _
  | n + 1 => by
    unfold affUp
    have := affUp_len l fl t p n
    split
    · rw [List.length_append, List.length_singleton]; omega
    · omega
def percB (p : Int) : Bool := decide (1 ≤ p ∧ p ≤ 100)
def affectedR (w h : Int) (l : List Int) (fw fh : Int) (fl : List Int) (t p : Int) : List Int × Bool := if (okM w h l && (fitsB w h fw fh fl && (thrB t && percB p))) = true then (affUp l fl t p 9, true) else ([], false)
theorem affectedR_len (w h : Int) (l : List Int) (fw fh : Int) (fl : List Int) (t p : Int) : (affectedR w h l fw fh fl t p).1.length ≤ 9 := by
  unfold affectedR
  split
  · exact affUp_len l fl t p 9
  · exact Nat.zero_le _
theorem mul_le64 {p n : Int} (hp : 1 ≤ p ∧ p ≤ 100) (hn : 0 ≤ n ∧ n ≤ 64) : n ≤ p * n ∧ p * n ≤ 6400 := by
  have h1 : 1 * n ≤ p * n := Int.mul_le_mul_of_nonneg_right hp.1 hn.1
  have h2 : p * n ≤ 100 * n := Int.mul_le_mul_of_nonneg_right hp.2 hn.1
  omega
theorem aff_filter {l fl : List Int} (hl : l.length ≤ 64) (t p : Int) (hp : 1 ≤ p ∧ p ≤ 100) : ∀ n, (areasUp l n).filter (fun a => !(decide ((vals l fl a).length = 0) || decide (100 * hiN l fl t a < p * alN l fl a))) = affUp l fl t p n
  | 0 => rfl
  | n + 1 => by
    have ih := aff_filter (fl := fl) hl t p hp n
    unfold areasUp affUp
    have hn := hiN_le l fl t ((n : Int) + 1)
    have ha := alN_le hl fl ((n : Int) + 1)
    have hm := mul_le64 hp ha
    have hz : (vals l fl ((n : Int) + 1)).length = 0 ↔ alN l fl ((n : Int) + 1) = 0 := by unfold alN; omega
    by_cases c : (n : Int) + 1 ∈ l
    · rw [if_pos c, List.filter_append, ih]
      by_cases hh : hitB l fl t p ((n : Int) + 1) = true
      · rw [if_pos hh]
        unfold hitB at hh
        rw [Bool.and_eq_true, decide_eq_true_eq, decide_eq_true_eq] at hh
        rw [List.filter_cons, if_pos (by rw [decide_eq_false (by omega), decide_eq_false (by omega)]; rfl), List.filter_nil]
      · rw [if_neg hh]
        unfold hitB at hh
        rw [Bool.and_eq_true, decide_eq_true_eq, decide_eq_true_eq] at hh
        rw [List.filter_cons, if_neg, List.filter_nil, List.append_nil]
        intro hc
        rw [Bool.not_eq_true', Bool.or_eq_false_iff, decide_eq_false_iff_not, decide_eq_false_iff_not] at hc
        refine hh ⟨?_, by omega⟩
        have : alN l fl ((n : Int) + 1) ≠ 0 := fun e => hc.1 (hz.2 e)
        omega
    · rw [if_neg c, ih, if_neg]
      unfold hitB hiN
      rw [vals_none fl c]
      simp
theorem ev_specAffected (w h : Int) (l : List Int) (fw fh : Int) (fl : List Int) (t p : Int) : Ev (fun k => spec_AffectedAreas.f k w h l fw fh fl t p) (affectedR w h l fw fh fl t p) := by
  unfold spec_AffectedAreas.f affectedR
  have no : Ev (fun k => spec_AffectedAreas.j0 k t p [] true w h l fw fh fl) ([], false) := Ev.unr (Ev.eq_now fun k => by simp only [spec_AffectedAreas.j0]; rfl)
  refine Ev.bind (f := fun k t => _) (Ev.now _) ?_
  cases ho : okM w h l with
  | false =>
    refine Ev.bind (f := fun k t => _) (show Ev (fun k => spec_l13Fits.f k w h l fw fh fl) false from ?_) no
    unfold spec_l13Fits.f
    refine Ev.bind (f := fun k t => _) (ev_goodM w h l) ?_
    rw [ho]
    exact Ev.now _
  | true =>
    refine Ev.bind (f := fun k t => _) (ev_fits w h l fw fh fl ho) ?_
    cases hf : fitsB w h fw fh fl with
    | false => exact no
    | true =>
      refine Ev.congr (fun k => if_pos rfl) ?_
      refine Ev.bind (f := fun k t => _) (Ev.eq_now (r := thrB t) fun k => by unfold spec_l13Threshold.f; rw [l1In_f]; rfl) ?_
      cases thrB t with
      | false => exact no
      | true =>
        refine Ev.congr (fun k => if_pos rfl) ?_
        refine Ev.bind (f := fun k t => _) (Ev.eq_now (r := percB p) fun k => by rw [l1In_f]; rfl) ?_
        cases hp : percB p with
        | false => exact no
        | true =>
          have hp : 1 ≤ p ∧ p ≤ 100 := of_decide_eq_true hp
          have hl := okM_len ho
          refine Ev.unr ?_
          simp only [spec_AffectedAreas.j0]
          refine Ev.congr (fun k => if_neg (by decide)) ?_
          have key : ∀ d i, i + d = 9 → Ev (fun k => spec_AffectedAreas.l0 k t p (affUp l fl t p i) ((i : Int) + 1) w h l fw fh fl) (affUp l fl t p 9, true) := by
            intro d
            induction d with
            | zero =>
              intro i hi
              obtain rfl : i = 9 := by omega
              refine Ev.unr (Ev.eq_now fun k => ?_)
              simp only [spec_AffectedAreas.l0]
              rw [if_neg (by omega)]
            | succ d ih =>
              intro i hi
              have h1 := ih (i + 1) (by omega)
              refine Ev.unr ?_
              simp only [spec_AffectedAreas.l0]
              refine Ev.congr (fun k => if_pos (by omega)) ?_
              refine Ev.bind (f := fun k t => _) (ev_specCov w h l ((i : Int) + 1) fw fh fl t hl (fits_len ho hf).1) ?_
              rw [show wrap64 ((i : Int) + 1 + 1) = ((i + 1 : Nat) : Int) + 1 from by unfold wrap64; omega]
              change Ev (fun k => if hiN l fl t ((i : Int) + 1) > 0 then (if wrap64 (100 * hiN l fl t ((i : Int) + 1)) ≥ wrap64 (p * alN l fl ((i : Int) + 1)) then _ else _) else _) _
              have hn := hiN_le l fl t ((i : Int) + 1)
              have ha := alN_le hl fl ((i : Int) + 1)
              have hm := mul_le64 hp ha
              rw [show wrap64 (100 * hiN l fl t ((i : Int) + 1)) = 100 * hiN l fl t ((i : Int) + 1) from by unfold wrap64; omega, show wrap64 (p * alN l fl ((i : Int) + 1)) = p * alN l fl ((i : Int) + 1) from by unfold wrap64; omega]
              by_cases c1 : 0 < hiN l fl t ((i : Int) + 1)
              · by_cases c2 : p * alN l fl ((i : Int) + 1) ≤ 100 * hiN l fl t ((i : Int) + 1)
                · have e : affUp l fl t p (i + 1) = affUp l fl t p i ++ [(i : Int) + 1] := if_pos (by unfold hitB; rw [decide_eq_true c1, decide_eq_true c2]; rfl)
                  rw [e] at h1
                  exact Ev.congr (fun k => (if_pos c1).trans ((if_pos c2).trans (if_pos (by have := affUp_len l fl t p i; omega)))) h1
                · have e : affUp l fl t p (i + 1) = affUp l fl t p i := if_neg (by unfold hitB; rw [decide_eq_false c2, Bool.and_false]; decide)
                  rw [e] at h1
                  exact Ev.congr (fun k => (if_pos c1).trans (if_neg c2)) h1
              · have e : affUp l fl t p (i + 1) = affUp l fl t p i := if_neg (by unfold hitB; rw [decide_eq_false c1, Bool.false_and]; decide)
                rw [e] at h1
                exact Ev.congr (fun k => if_neg c1) h1
          exact key 9 0 (by omega)
theorem ev_affP (w h : Int) (l : List Int) (fw fh : Int) (fl : List Int) (t p : Int) (hl : l.length ≤ 64) (hfl : fl.length = l.length) (hp : 1 ≤ p ∧ p ≤ 100) (x : Int) : Ev (fun k => affP k w h l fw fh fl t p x) (decide ((vals l fl x).length = 0) || decide (100 * hiN l fl t x < p * alN l fl x)) := by
  unfold affP
  have hn := hiN_le l fl t x
  have ha := alN_le hl fl x
  have hm := mul_le64 hp ha
  refine Ev.bind (f := fun k t => _) (ev_areaValues w h l x fw fh fl hl hfl) ?_
  by_cases c : (vals l fl x).length = 0
  · rw [decide_eq_true c, Bool.true_or]
    exact Ev.congr (fun k => if_pos c) (Ev.now _)
  · rw [decide_eq_false c, Bool.false_or]
    refine Ev.congr (fun k => if_neg c) ?_
    refine Ev.bind (f := fun k t => _) (ev_count (vals l fl x) (by have := vals_len l fl x; omega) t) ?_
    change Ev (fun k => some (decide (wrap64 (100 * hiN l fl t x) < wrap64 (p * alN l fl x)))) _
    rw [show wrap64 (100 * hiN l fl t x) = 100 * hiN l fl t x from by unfold wrap64; omega, show wrap64 (p * alN l fl x) = p * alN l fl x from by unfold wrap64; omega]
    exact Ev.now _
theorem ev_affL {q : Nat → Int → Option Bool} {b : Int → Bool} (hq : ∀ x, Ev (fun k => q k x) (b x)) : ∀ l : List Int, Ev (fun k => affL (q k) l) (l.filter fun x => !b x)
  | [] => Ev.now _
  | x :: r => by
    unfold affL
    refine Ev.bind (f := fun k t => _) (hq x) (Ev.bind (f := fun k t => _) (ev_affL hq r) ?_)
    rw [List.filter_cons]
    cases b x <;> exact Ev.now _
theorem ev_implAffected (w h : Int) (l : List Int) (fw fh : Int) (fl : List Int) (t p : Int) : Ev (fun k => impl_AffectedAreas.f k w h l fw fh fl t p) (affectedR w h l fw fh fl t p) := by
  unfold impl_AffectedAreas.f affectedR
  refine Ev.bind (f := fun k t => _) (ev_implAreas w h l) ?_
  unfold areasR
  cases ho : okM w h l with
  | false => exact Ev.now _
  | true =>
    rw [if_pos rfl]
    refine Ev.congr (fun k => if_pos rfl) ?_
    simp only [fitsMap_f, within_f, Option.bind_some]
    cases hf : fitsB w h fw fh fl with
    | false => exact Ev.now _
    | true =>
      refine Ev.congr (fun k => if_pos rfl) ?_
      rw [show decide (-9000 ≤ t ∧ t ≤ 9000) = thrB t from rfl, show decide (1 ≤ p ∧ p ≤ 100) = percB p from rfl]
      cases thrB t with
      | false => exact Ev.now _
      | true =>
        refine Ev.congr (fun k => if_pos rfl) ?_
        cases hp : percB p with
        | false => exact Ev.now _
        | true =>
          have hp : 1 ≤ p ∧ p ≤ 100 := of_decide_eq_true hp
          have hl := okM_len ho
          refine Ev.congr (fun k => if_pos rfl) ?_
          refine Ev.bind (f := fun k t => _) (ev_affL (fun x => ev_affP w h l fw fh fl t p hl (fits_len ho hf).1 hp x) (areasUp l 9)) ?_
          rw [aff_filter hl t p hp 9]
          exact Ev.now _
def Cod (l : List Int) : Prop := l.length ≤ 1000000 ∧ ∀ x ∈ l, 0 ≤ x ∧ x ≤ 255
theorem and_u64 (X : Int) : 0 ≤ Go.bits .and .u64 ((IntKind.u64.wrap X) / 1099511627776) 255 ∧ Go.bits .and .u64 ((IntKind.u64.wrap X) / 1099511627776) 255 ≤ 255 := by
  have hw : IntKind.u64.wrap X = X % 18446744073709551616 := by simp [IntKind.wrap, IntKind.bits, IntKind.signed]
  have h1 : 0 ≤ X % 18446744073709551616 := by omega
  have h2 : X % 18446744073709551616 < 18446744073709551616 := by omega
  rw [hw]
  generalize X % 18446744073709551616 = Y at h1 h2
  have key := bits_mask .u64 32 (by decide) (fun n h0 h1 => by
    have e : IntKind.u64.wrap n = n % 18446744073709551616 := by simp [IntKind.wrap, IntKind.bits, IntKind.signed]
    rw [e]; omega) 8 (by decide) (Y / 1099511627776) (by omega) (by omega)
  rw [show (2 : Int) ^ 8 - 1 = 255 from rfl] at key
  rw [key]
  omega
theorem next_ok {l : List Int} (h : Cod l) (s q : Int) (h0 : 0 ≤ s) (h1 : s ≤ 1000000000) : ∃ b q', spec_l1Cur_next.f l s q = some (b, s + 1, q') ∧ 0 ≤ b ∧ b ≤ 255 := by
  unfold spec_l1Cur_next.f
  rw [show wrap64 (s + 1) = s + 1 from by unfold wrap64; omega]
  by_cases c : s < (l.length : Int)
  · rw [if_pos c, if_pos h0, if_pos (by omega)]
    have hb : 0 ≤ rd l s ∧ rd l s ≤ 255 := by
      show 0 ≤ l.getD s.toNat 0 ∧ l.getD s.toNat 0 ≤ 255
      rw [getD_lt l 0 s.toNat (by omega)]
      exact h.2 _ (List.getElem_mem _)
    exact ⟨_, _, rfl, by unfold wrap64; omega, by unfold wrap64; omega⟩
  · rw [if_neg c, if_neg (by omega)]
    refine ⟨_, _, rfl, ?_⟩
    have := and_u64 ((IntKind.u64.wrap ((IntKind.u64.wrap (q * 6364136223846793005)) + 0)) + 889889)
    generalize Go.bits .and .u64 ((IntKind.u64.wrap ((IntKind.u64.wrap ((IntKind.u64.wrap (q * 6364136223846793005)) + 0)) + 889889)) / 1099511627776) 255 = z at this ⊢
    unfold wrap64; omega
theorem pick_ok {l : List Int} (h : Cod l) (s q : Int) (h0 : 0 ≤ s) (h1 : s ≤ 999999998) (n : Int) : ∃ x s' q', spec_l1Cur_pick.f l s q n = some (x, s', q') ∧ 0 ≤ x ∧ (x < n ∨ x = 0) ∧ s ≤ s' ∧ s' ≤ s + 2 := by
  unfold spec_l1Cur_pick.f
  by_cases c : n ≤ 1
  · rw [if_pos c]
    exact ⟨0, s, q, rfl, by omega, .inr rfl, by omega, by omega⟩
  · rw [if_neg c]
    obtain ⟨b, q1, e1, b0, b1⟩ := next_ok h s q h0 (by omega)
    rw [e1, Option.bind_some]
    dsimp only
    by_cases c2 : n > 200
    · rw [if_pos c2]
      obtain ⟨d, q2, e2, d0, d1⟩ := next_ok h (s + 1) q1 (by omega) (by omega)
      rw [e2, Option.bind_some]
      dsimp only
      rw [if_neg (by omega), show wrap64 (wrap64 (b * 256) + d) = b * 256 + d from by unfold wrap64; omega]
      exact ⟨_, _, _, rfl, Int.tmod_nonneg _ (by omega), .inl (Int.tmod_lt_of_pos _ (by omega)), by omega, by omega⟩
    · rw [if_neg c2, if_neg (by omega)]
      exact ⟨_, _, _, rfl, Int.tmod_nonneg _ b0, .inl (Int.tmod_lt_of_pos _ (by omega)), by omega, by omega⟩
theorem among_ok {l : List Int} (h : Cod l) (s q : Int) (h0 : 0 ≤ s) (h1 : s ≤ 999999998) (L : List Int) (hL : 0 < L.length) : ∃ x s' q', spec_l1Cur_among.f l s q L = some (x, s', q') ∧ x ∈ L ∧ s ≤ s' ∧ s' ≤ s + 2 := by
  unfold spec_l1Cur_among.f
  obtain ⟨x, s1, q1, e1, x0, x1, s0, s2⟩ := pick_ok h s q h0 h1 (L.length : Int)
  rw [e1, Option.bind_some]
  dsimp only
  rw [if_pos x0, if_pos (by omega)]
  refine ⟨_, _, _, rfl, ?_, s0, s2⟩
  show L.getD x.toNat 0 ∈ L
  rw [getD_lt L 0 x.toNat (by omega)]
  exact List.getElem_mem _
theorem one_ok {l : List Int} (h : Cod l) (s q : Int) (h0 : 0 ≤ s) (h1 : s ≤ 999999998) (n : Int) : ∃ b s' q', spec_l1Cur_one.f l s q n = some (b, s', q') ∧ s ≤ s' ∧ s' ≤ s + 2 := by
  unfold spec_l1Cur_one.f
  obtain ⟨x, s1, q1, e1, _, _, s0, s2⟩ := pick_ok h s q h0 h1 n
  rw [e1, Option.bind_some]
  exact ⟨_, _, _, rfl, s0, s2⟩
theorem len_app1 (L : List Int) (x : Int) : (L ++ [x]).length = L.length + 1 := by rw [List.length_append, List.length_singleton]
theorem map_l0 {l : List Int} (h : Cod l) (w hh : Int) (hw : 1 ≤ w ∧ w ≤ 6) (N : Nat) (hN : 1 ≤ N ∧ N ≤ 36) (hwh : wrap64 (w * hh) = (N : Int)) (W H : Int) : ∀ (d i : Nat) (L : List Int) (s q : Int), i + d = N → L.length = i → 0 ≤ s → s + 6 * (d : Int) ≤ 999970000 →
    ∃ L' s' q', Ev (fun k => spec_l1Cur_areaMap.l0 k w hh (i : Int) l s q W H L) (W, H, L', s', q') ∧ L'.length = N ∧ s ≤ s' ∧ s' ≤ s + 6 * (d : Int) := by
  intro d
  induction d with
  | zero =>
    intro i L s q hi hL h0 h1
    refine ⟨L, s, q, Ev.unr (Ev.eq_now fun k => ?_), by omega, by omega, by omega⟩
    simp only [spec_l1Cur_areaMap.l0]
    rw [hwh, if_neg (by omega)]
  | succ d ih =>
    intro i L s q hi hL h0 h1
    have hwi : wrap64 ((i : Int) + 1) = ((i + 1 : Nat) : Int) := by unfold wrap64; omega
    obtain ⟨x, s1, q1, e1, _, u1, v1⟩ := among_ok h s q h0 (by omega) [0, 1, 2, 3, 1, 2, 9] (by decide)
    have go : ∀ (b : Bool) (s2 q2 : Int), (b = true → 0 < i) → s1 ≤ s2 → s2 ≤ s1 + 2 → ∃ L' s' q', Ev (fun k => spec_l1Cur_areaMap.j1 k w hh (i : Int) x b l s2 q2 W H L) (W, H, L', s', q') ∧ L'.length = N ∧ s2 ≤ s' ∧ s' ≤ s2 + 2 + 6 * (d : Int) := by
      intro b s2 q2 hb u2 v2
      cases b with
      | true =>
        have h0i := hb rfl
        have hwp : wrap64 ((i : Int) - 1) = ((i - 1 : Nat) : Int) := by unfold wrap64; omega
        obtain ⟨L', s', q', e', l', u', v'⟩ := ih (i + 1) (L ++ [rd L ((i - 1 : Nat) : Int)]) s2 q2 (by omega) (by rw [len_app1]; omega) (by omega) (by omega)
        refine ⟨L', s', q', Ev.unr ?_, l', by omega, by omega⟩
        simp only [spec_l1Cur_areaMap.j1]
        rw [hwp, hwi]
        exact Ev.congr (fun k => (if_pos (by first | rfl | trivial)).trans ((if_pos (by omega)).trans ((if_pos (by omega)).trans (if_pos (by omega))))) e'
      | false =>
        by_cases c : (i : Int) ≥ w
        · obtain ⟨o, s3, q3, e3, u3, v3⟩ := one_ok h s2 q2 (by omega) (by omega) 2
          cases o with
          | true =>
            have hwm : wrap64 ((i : Int) - w) = (i : Int) - w := by unfold wrap64; omega
            obtain ⟨L', s', q', e', l', u', v'⟩ := ih (i + 1) (L ++ [rd L ((i : Int) - w)]) s3 q3 (by omega) (by rw [len_app1]; omega) (by omega) (by omega)
            refine ⟨L', s', q', Ev.unr ?_, l', by omega, by omega⟩
            simp only [spec_l1Cur_areaMap.j1]
            refine Ev.congr (fun k => (if_neg (by simp)).trans (if_pos c)) ?_
            simp only [e3, Option.bind_some, hwm, hwi]
            exact Ev.congr (fun k => (if_pos (by first | rfl | trivial)).trans ((if_pos (by omega)).trans ((if_pos (by omega)).trans (if_pos (by omega))))) e'
          | false =>
            obtain ⟨L', s', q', e', l', u', v'⟩ := ih (i + 1) (L ++ [x]) s3 q3 (by omega) (by rw [len_app1]; omega) (by omega) (by omega)
            refine ⟨L', s', q', Ev.unr ?_, l', by omega, by omega⟩
            simp only [spec_l1Cur_areaMap.j1]
            refine Ev.congr (fun k => (if_neg (by simp)).trans (if_pos c)) ?_
            simp only [e3, Option.bind_some, hwi]
            exact Ev.congr (fun k => (if_neg (by simp)).trans (if_pos (by omega))) e'
        · obtain ⟨L', s', q', e', l', u', v'⟩ := ih (i + 1) (L ++ [x]) s2 q2 (by omega) (by rw [len_app1]; omega) (by omega) (by omega)
          refine ⟨L', s', q', Ev.unr ?_, l', by omega, by omega⟩
          simp only [spec_l1Cur_areaMap.j1]
          rw [hwi]
          exact Ev.congr (fun k => (if_neg (by simp)).trans ((if_neg c).trans (if_pos (by omega)))) e'
    by_cases ci : (i : Int) > 0
    · obtain ⟨o, s2, q2, e2, u2, v2⟩ := one_ok h s1 q1 (by omega) (by omega) 2
      obtain ⟨L', s', q', e', l', u', v'⟩ := go o s2 q2 (fun _ => by omega) u2 v2
      refine ⟨L', s', q', Ev.unr ?_, l', by omega, by omega⟩
      simp only [spec_l1Cur_areaMap.l0]
      refine Ev.congr (fun k => if_pos (by rw [hwh]; omega)) ?_
      simp only [e1, Option.bind_some]
      refine Ev.congr (fun k => if_pos ci) ?_
      simp only [e2, Option.bind_some]
      exact e'
    · obtain ⟨L', s', q', e', l', u', v'⟩ := go false s1 q1 (fun c => by cases c) (by omega) (by omega)
      refine ⟨L', s', q', Ev.unr ?_, l', by omega, by omega⟩
      simp only [spec_l1Cur_areaMap.l0]
      refine Ev.congr (fun k => if_pos (by rw [hwh]; omega)) ?_
      simp only [e1, Option.bind_some]
      exact Ev.congr (fun k => if_neg ci) e'
theorem anyMap_ok {l : List Int} (h : Cod l) : ∃ w' h' L' s' q', Ev (fun k => spec_l1Cur_anyAreaMap.f k l 0 0) (w', h', L', s', q') ∧ L'.length ≤ 64 ∧ 0 ≤ s' ∧ s' ≤ 1000 := by
  obtain ⟨x, s1, q1, e1, x0, x1, u1, v1⟩ := pick_ok h 0 0 (by omega) (by omega) 6
  obtain ⟨y, s2, q2, e2, y0, y1, u2, v2⟩ := pick_ok h s1 q1 (by omega) (by omega) 6
  obtain ⟨m, rfl⟩ : ∃ m : Nat, x = (m : Int) := ⟨x.toNat, by omega⟩
  obtain ⟨n, rfl⟩ : ∃ n : Nat, y = (n : Int) := ⟨y.toNat, by omega⟩
  have hb : 1 ≤ (m + 1) * (n + 1) ∧ (m + 1) * (n + 1) ≤ 36 := ⟨Nat.mul_pos (by omega) (by omega), Nat.mul_le_mul (show m + 1 ≤ 6 by omega) (show n + 1 ≤ 6 by omega)⟩
  have hm1 : wrap64 (1 + (m : Int)) = ((m + 1 : Nat) : Int) := by unfold wrap64; omega
  have hn1 : wrap64 (1 + (n : Int)) = ((n + 1 : Nat) : Int) := by unfold wrap64; omega
  have hw : wrap64 (((m + 1 : Nat) : Int) * ((n + 1 : Nat) : Int)) = (((m + 1) * (n + 1) : Nat) : Int) := by
    rw [← Int.natCast_mul]
    generalize (m + 1) * (n + 1) = p at hb ⊢
    unfold wrap64; omega
  obtain ⟨L, s3, q3, e3, l3, u3, v3⟩ := map_l0 h ((m + 1 : Nat) : Int) ((n + 1 : Nat) : Int) (by omega) ((m + 1) * (n + 1)) hb hw ((m + 1 : Nat) : Int) ((n + 1 : Nat) : Int) ((m + 1) * (n + 1)) 0 [] s2 q2 (by omega) rfl (by omega) (by omega)
  have eM : Ev (fun k => spec_l1Cur_areaMap.f k l s2 q2 (wrap64 (1 + (m : Int))) (wrap64 (1 + (n : Int)))) (((m + 1 : Nat) : Int), ((n + 1 : Nat) : Int), L, s3, q3) := by
    unfold spec_l1Cur_areaMap.f
    rw [hm1, hn1]
    exact e3
  have hL : 1 ≤ L.length ∧ L.length ≤ 36 := by rw [l3]; exact hb
  clear e3 l3 hw
  obtain ⟨z, s4, q4, e4, z0, z1, u4, v4⟩ := pick_ok h s3 q3 (by omega) (by omega) 30
  by_cases c0 : z = 0
  · refine ⟨((m + 1 : Nat) : Int), ((n + 1 : Nat) : Int), L ++ [1], s4, q4, ?_, by rw [len_app1]; omega, by omega, by omega⟩
    unfold spec_l1Cur_anyAreaMap.f
    simp only [e1, e2, Option.bind_some]
    refine Ev.bind (f := fun k t => _) eM ?_
    simp only [e4, Option.bind_some]
    exact Ev.congr (fun k => (if_pos c0).trans (if_pos (by omega))) (Ev.now _)
  · by_cases c1 : z = 1
    · obtain ⟨p, s5, q5, e5, p0, p1, u5, v5⟩ := pick_ok h s4 q4 (by omega) (by omega) (L.length : Int)
      obtain ⟨a, s6, q6, e6, _, u6, v6⟩ := among_ok h s5 q5 (by omega) (by omega) [-1, 10] (by decide)
      refine ⟨((m + 1 : Nat) : Int), ((n + 1 : Nat) : Int), L.set p.toNat a, s6, q6, ?_, by rw [List.length_set]; omega, by omega, by omega⟩
      unfold spec_l1Cur_anyAreaMap.f
      simp only [e1, e2, Option.bind_some]
      refine Ev.bind (f := fun k t => _) eM ?_
      simp only [e4, Option.bind_some]
      refine Ev.congr (fun k => (if_neg c0).trans (if_pos c1)) ?_
      simp only [e5, e6, Option.bind_some]
      exact Ev.congr (fun k => (if_pos p0).trans (if_pos (by omega))) (Ev.now _)
    · by_cases c2 : z = 2
      · obtain ⟨a, s5, q5, e5, _, u5, v5⟩ := among_ok h s4 q4 (by omega) (by omega) [0, 9, ((n + 1 : Nat) : Int)] (by simp)
        refine ⟨a, ((n + 1 : Nat) : Int), L, s5, q5, ?_, by omega, by omega, by omega⟩
        unfold spec_l1Cur_anyAreaMap.f
        simp only [e1, e2, Option.bind_some]
        refine Ev.bind (f := fun k t => _) eM ?_
        simp only [e4, Option.bind_some]
        refine Ev.congr (fun k => (if_neg c0).trans ((if_neg c1).trans (if_pos c2))) ?_
        simp only [e5, Option.bind_some]
        exact Ev.now _
      · refine ⟨((m + 1 : Nat) : Int), ((n + 1 : Nat) : Int), L, s4, q4, ?_, by omega, by omega, by omega⟩
        unfold spec_l1Cur_anyAreaMap.f
        simp only [e1, e2, Option.bind_some]
        refine Ev.bind (f := fun k t => _) eM ?_
        simp only [e4, Option.bind_some]
        exact Ev.congr (fun k => (if_neg c0).trans ((if_neg c1).trans (if_neg c2))) (Ev.now _)
theorem area_ok {l : List Int} (h : Cod l) (s q : Int) (h0 : 0 ≤ s) (h1 : s ≤ 999900000) (w hh : Int) (L : List Int) (hL : L.length ≤ 64) : ∃ a s' q', Ev (fun k => spec_l1Cur_area.f k l s q w hh L) (a, s', q') ∧ s ≤ s' ∧ s' ≤ s + 10 := by
  obtain ⟨o, s1, q1, e1, u1, v1⟩ := one_ok h s q h0 (by omega) 16
  have go : ∀ b : Bool, (b = false → 1 ≤ L.length) → ∃ a s' q', Ev (fun k => spec_l1Cur_area.j0 k b l s1 q1 w hh L) (a, s', q') ∧ s1 ≤ s' ∧ s' ≤ s1 + 2 := by
    intro b hb
    cases b with
    | true =>
      obtain ⟨x, s2, q2, e2, _, u2, v2⟩ := among_ok h s1 q1 (by omega) (by omega) [0, 5, 10] (by decide)
      refine ⟨x, s2, q2, Ev.unr ?_, u2, v2⟩
      simp only [spec_l1Cur_area.j0]
      refine Ev.congr (fun k => if_pos (by first | rfl | trivial)) ?_
      simp only [e2, Option.bind_some]
      exact Ev.now _
    | false =>
      have := hb rfl
      obtain ⟨x, s2, q2, e2, x0, x1, u2, v2⟩ := pick_ok h s1 q1 (by omega) (by omega) (L.length : Int)
      refine ⟨rd L x, s2, q2, Ev.unr ?_, u2, v2⟩
      simp only [spec_l1Cur_area.j0]
      refine Ev.congr (fun k => if_neg (by simp)) ?_
      simp only [e2, Option.bind_some]
      exact Ev.congr (fun k => (if_pos x0).trans (if_pos (by omega))) (Ev.now _)
  cases o with
  | true =>
    obtain ⟨a, s', q', e', u', v'⟩ := go true (fun c => by cases c)
    refine ⟨a, s', q', ?_, by omega, by omega⟩
    unfold spec_l1Cur_area.f
    simp only [e1, Option.bind_some]
    exact Ev.congr (fun k => if_pos (by first | rfl | trivial)) e'
  | false =>
    obtain ⟨a, s', q', e', u', v'⟩ := go ((L.length : Int) == 0) (fun c => by rw [beq_eq_false_iff_ne] at c; omega)
    refine ⟨a, s', q', ?_, by omega, by omega⟩
    unfold spec_l1Cur_area.f
    simp only [e1, Option.bind_some]
    exact Ev.congr (fun k => if_neg (by simp)) e'
theorem fill_ok : ∀ (d i : Nat) (L : List Int), i + d = 64 → L.length = i → ∃ L', Ev (fun k => spec_l2Fill.l0 k 8 8 3 (i : Int) 8 8 L) (8, 8, L') ∧ L'.length = 64 := by
  intro d
  induction d with
  | zero =>
    intro i L hi hL
    refine ⟨L, Ev.unr (Ev.eq_now fun k => ?_), by omega⟩
    simp only [spec_l2Fill.l0]
    rw [show wrap64 (8 * 8) = 64 from by unfold wrap64; omega, if_neg (by omega)]
  | succ d ih =>
    intro i L hi hL
    obtain ⟨L', e', l'⟩ := ih (i + 1) (L ++ [3]) (by omega) (by rw [List.length_append, List.length_singleton]; omega)
    refine ⟨L', Ev.unr ?_, l'⟩
    simp only [spec_l2Fill.l0]
    rw [show wrap64 (8 * 8) = 64 from by unfold wrap64; omega, show wrap64 ((i : Int) + 1) = ((i + 1 : Nat) : Int) from by unfold wrap64; omega]
    exact Ev.congr (fun k => (if_pos (by omega)).trans (if_pos (by omega))) e'
theorem field_j1 {l : List Int} (h : Cod l) (w hh : Int) (L : List Int) (hL : 1 ≤ L.length ∧ L.length ≤ 64) (s q : Int) (h0 : 0 ≤ s) (h1 : s ≤ 999980000) :
    ∃ w' h' L' s' q', Ev (fun k => spec_l1Cur_field.j1 k l s q w hh L) (w', h', L', s', q') ∧ 1 ≤ L'.length ∧ L'.length ≤ 64 ∧ s ≤ s' ∧ s' ≤ s + 2 := by
  obtain ⟨b, s1, q1, e1, u1, v1⟩ := one_ok h s q h0 (by omega) 24
  cases b with
  | true =>
    obtain ⟨L', e', l'⟩ := fill_ok 64 0 [] (by omega) rfl
    refine ⟨8, 8, L', s1, q1, Ev.unr ?_, by omega, by omega, by omega, by omega⟩
    simp only [spec_l1Cur_field.j1, e1, Option.bind_some]
    refine Ev.congr (fun k => if_pos (by first | rfl | trivial)) ?_
    exact Ev.bind (f := fun k t => _) (show Ev (fun k => spec_l2Fill.f k 8 8 3) (8, 8, L') from by unfold spec_l2Fill.f; exact e') (Ev.now _)
  | false =>
    refine ⟨w, hh, L, s1, q1, Ev.unr ?_, hL.1, hL.2, by omega, by omega⟩
    simp only [spec_l1Cur_field.j1, e1, Option.bind_some]
    exact Ev.congr (fun k => if_neg (by simp)) (Ev.now _)
theorem field_l0 {l : List Int} (h : Cod l) (b w hh : Int) (N : Nat) (hN : 1 ≤ N ∧ N ≤ 25) (hw : wrap64 (w * hh) = (N : Int)) : ∀ (d i : Nat) (L : List Int) (s q : Int), i + d = N → L.length = i → 0 ≤ s → s + 4 * (d : Int) ≤ 999970000 →
    ∃ w' h' L' s' q', Ev (fun k => spec_l1Cur_field.l0 k b (i : Int) l s q w hh L) (w', h', L', s', q') ∧ 1 ≤ L'.length ∧ L'.length ≤ 64 ∧ s ≤ s' ∧ s' ≤ s + 4 * (d : Int) + 20 := by
  intro d
  induction d with
  | zero =>
    intro i L s q hi hL h0 h1
    obtain ⟨o, s1, q1, e1, u1, v1⟩ := one_ok h s q h0 (by omega) 10
    cases o with
    | true =>
      obtain ⟨x, s2, q2, e2, x0, x1, u2, v2⟩ := pick_ok h s1 q1 (by omega) (by omega) (L.length : Int)
      obtain ⟨y, s3, q3, e3, _, u3, v3⟩ := among_ok h s2 q2 (by omega) (by omega) [9000, -9000, 0] (by decide)
      obtain ⟨w', h', L', s', q', e', l1, l2, u4, v4⟩ := field_j1 h w hh (L.set x.toNat y) (by rw [List.length_set]; omega) s3 q3 (by omega) (by omega)
      refine ⟨w', h', L', s', q', Ev.unr ?_, l1, l2, by omega, by omega⟩
      simp only [spec_l1Cur_field.l0]
      refine Ev.congr (fun k => if_neg (by rw [hw]; omega)) ?_
      simp only [e1, Option.bind_some]
      refine Ev.congr (fun k => if_pos (by first | rfl | trivial)) ?_
      simp only [e2, e3, Option.bind_some]
      exact Ev.congr (fun k => (if_pos x0).trans (if_pos (by omega))) e'
    | false =>
      obtain ⟨w', h', L', s', q', e', l1, l2, u4, v4⟩ := field_j1 h w hh L (by omega) s1 q1 (by omega) (by omega)
      refine ⟨w', h', L', s', q', Ev.unr ?_, l1, l2, by omega, by omega⟩
      simp only [spec_l1Cur_field.l0]
      refine Ev.congr (fun k => if_neg (by rw [hw]; omega)) ?_
      simp only [e1, Option.bind_some]
      exact Ev.congr (fun k => if_neg (by simp)) e'
  | succ d ih =>
    intro i L s q hi hL h0 h1
    obtain ⟨x, s1, q1, e1, x0, x1, u1, v1⟩ := pick_ok h s q h0 (by omega) 40
    obtain ⟨o, s2, q2, e2, u2, v2⟩ := one_ok h s1 q1 (by omega) (by omega) 12
    have hwi : wrap64 ((i : Int) + 1) = ((i + 1 : Nat) : Int) := by unfold wrap64; omega
    cases o with
    | true =>
      obtain ⟨w', h', L', s', q', e', l1, l2, u4, v4⟩ := ih (i + 1) (L ++ [-9999]) s2 q2 (by omega) (by rw [List.length_append, List.length_singleton]; omega) (by omega) (by omega)
      refine ⟨w', h', L', s', q', Ev.unr ?_, l1, l2, by omega, by omega⟩
      simp only [spec_l1Cur_field.l0]
      refine Ev.congr (fun k => if_pos (by rw [hw]; omega)) ?_
      simp only [e1, e2, Option.bind_some, hwi]
      exact Ev.congr (fun k => (if_pos (by first | rfl | trivial)).trans (if_pos (by omega))) e'
    | false =>
      obtain ⟨w', h', L', s', q', e', l1, l2, u4, v4⟩ := ih (i + 1) (L ++ [wrap64 (b + x)]) s2 q2 (by omega) (by rw [List.length_append, List.length_singleton]; omega) (by omega) (by omega)
      refine ⟨w', h', L', s', q', Ev.unr ?_, l1, l2, by omega, by omega⟩
      simp only [spec_l1Cur_field.l0]
      refine Ev.congr (fun k => if_pos (by rw [hw]; omega)) ?_
      simp only [e1, e2, Option.bind_some, hwi]
      exact Ev.congr (fun k => (if_neg (by simp)).trans (if_pos (by omega))) e'
theorem field_ok {l : List Int} (h : Cod l) (s q : Int) (h0 : 0 ≤ s) (h1 : s ≤ 999900000) : ∃ w' h' L' s' q', Ev (fun k => spec_l1Cur_field.f k l s q) (w', h', L', s', q') ∧ 1 ≤ L'.length ∧ L'.length ≤ 64 ∧ s ≤ s' ∧ s' ≤ s + 200 := by
  obtain ⟨x, s1, q1, e1, x0, x1, u1, v1⟩ := pick_ok h s q h0 (by omega) 5
  obtain ⟨y, s2, q2, e2, y0, y1, u2, v2⟩ := pick_ok h s1 q1 (by omega) (by omega) 5
  obtain ⟨z, s3, q3, e3, _, u3, v3⟩ := among_ok h s2 q2 (by omega) (by omega) [0, 10, 100, -50] (by decide)
  obtain ⟨m, rfl⟩ : ∃ m : Nat, x = (m : Int) := ⟨x.toNat, by omega⟩
  obtain ⟨n, rfl⟩ : ∃ n : Nat, y = (n : Int) := ⟨y.toNat, by omega⟩
  have hm : m ≤ 4 := by omega
  have hn : n ≤ 4 := by omega
  have hb : 1 ≤ (m + 1) * (n + 1) ∧ (m + 1) * (n + 1) ≤ 25 := ⟨Nat.mul_pos (by omega) (by omega), Nat.mul_le_mul (show m + 1 ≤ 5 by omega) (show n + 1 ≤ 5 by omega)⟩
  have hw : wrap64 (wrap64 (1 + (m : Int)) * wrap64 (1 + (n : Int))) = (((m + 1) * (n + 1) : Nat) : Int) := by
    rw [show wrap64 (1 + (m : Int)) = ((m + 1 : Nat) : Int) from by unfold wrap64; omega, show wrap64 (1 + (n : Int)) = ((n + 1 : Nat) : Int) from by unfold wrap64; omega, ← Int.natCast_mul]
    generalize (m + 1) * (n + 1) = p at hb ⊢
    unfold wrap64; omega
  obtain ⟨w', h', L', s', q', e', l1, l2, u4, v4⟩ := field_l0 h z (wrap64 (1 + (m : Int))) (wrap64 (1 + (n : Int))) ((m + 1) * (n + 1)) hb hw ((m + 1) * (n + 1)) 0 [] s3 q3 (by omega) rfl (by omega) (by omega)
  refine ⟨w', h', L', s', q', ?_, l1, l2, by omega, by omega⟩
  unfold spec_l1Cur_field.f
  simp only [e1, e2, e3, Option.bind_some]
  exact e'
theorem anyFieldS_ok {l : List Int} (h : Cod l) (s0 q0 : Int) (h0 : 0 ≤ s0) (h1 : s0 ≤ 99000000) : ∃ w' h' L' s' q', Ev (fun k => spec_l1Cur_anyField.f k l s0 q0) (w', h', L', s', q') ∧ L'.length ≤ 64 ∧ s0 ≤ s' ∧ s' ≤ s0 + 1000 := by
  obtain ⟨w, hh, L, s, q, e, l1, l2, u0, v0⟩ := field_ok h s0 q0 (by omega) (by omega)
  obtain ⟨x, s1, q1, e1, x0, x1, u1, v1⟩ := pick_ok h s q (by omega) (by omega) 24
  by_cases c0 : x = 0
  · obtain ⟨y, s2, q2, e2, _, u2, v2⟩ := among_ok h s1 q1 (by omega) (by omega) [0, 9, 8, hh] (by simp)
    refine ⟨y, hh, L, s2, q2, ?_, l2, by omega, by omega⟩
    unfold spec_l1Cur_anyField.f
    refine Ev.bind (f := fun k t => _) e ?_
    simp only [e1, Option.bind_some]
    refine Ev.congr (fun k => if_pos c0) ?_
    simp only [e2, Option.bind_some]
    exact Ev.now _
  · by_cases c1 : x = 1
    · obtain ⟨z, s2, q2, e2, z0, z1, u2, v2⟩ := pick_ok h s1 q1 (by omega) (by omega) (L.length : Int)
      obtain ⟨y, s3, q3, e3, _, u3, v3⟩ := among_ok h s2 q2 (by omega) (by omega) [9001, -9001, -9998, -9999] (by decide)
      refine ⟨w, hh, L.set z.toNat y, s3, q3, ?_, by rw [List.length_set]; omega, by omega, by omega⟩
      unfold spec_l1Cur_anyField.f
      refine Ev.bind (f := fun k t => _) e ?_
      simp only [e1, Option.bind_some]
      refine Ev.congr (fun k => (if_neg c0).trans (if_pos c1)) ?_
      simp only [e2, e3, Option.bind_some]
      exact Ev.congr (fun k => (if_pos z0).trans (if_pos (by omega))) (Ev.now _)
    · by_cases c2 : x = 2
      · refine ⟨w, hh, L.drop (1 : Int).toNat, s1, q1, ?_, by rw [List.length_drop]; omega, by omega, by omega⟩
        unfold spec_l1Cur_anyField.f
        refine Ev.bind (f := fun k t => _) e ?_
        simp only [e1, Option.bind_some]
        exact Ev.congr (fun k => (if_neg c0).trans ((if_neg c1).trans ((if_pos c2).trans (if_pos (by omega))))) (Ev.now _)
      · refine ⟨w, hh, L, s1, q1, ?_, l2, by omega, by omega⟩
        unfold spec_l1Cur_anyField.f
        refine Ev.bind (f := fun k t => _) e ?_
        simp only [e1, Option.bind_some]
        exact Ev.congr (fun k => (if_neg c0).trans ((if_neg c1).trans (if_neg c2))) (Ev.now _)
theorem fieldOf_l0 {l : List Int} (h : Cod l) (w hh : Int) (L : List Int) (hL : L.length ≤ 64) (W H : Int) : ∀ (d i : Nat) (P : List Int) (s q : Int), i + d = L.length → P.length = i → 0 ≤ s → s + 2 * (d : Int) ≤ 999990000 →
    ∃ L' s' q', Ev (fun k => spec_l1Cur_fieldOf.l0 k (i : Int) l s q w hh L W H P) (W, H, L', s', q') ∧ L'.length ≤ 64 ∧ s ≤ s' ∧ s' ≤ s + 2 * (d : Int) := by
  intro d
  induction d with
  | zero =>
    intro i P s q hi hP h0 h1
    refine ⟨P, s, q, Ev.unr ?_, by omega, by omega, by omega⟩
    simp only [spec_l1Cur_fieldOf.l0]
    exact Ev.congr (fun k => if_neg (by omega)) (Ev.now _)
  | succ d ih =>
    intro i P s q hi hP h0 h1
    obtain ⟨y, s1, q1, e1, _, u1, v1⟩ := among_ok h s q h0 (by omega) [0, 5, 10, 20, 20, -9999] (by decide)
    obtain ⟨L', s', q', e', l', u2, v2⟩ := ih (i + 1) (P ++ [y]) s1 q1 (by omega) (by rw [List.length_append, List.length_singleton]; omega) (by omega) (by omega)
    refine ⟨L', s', q', Ev.unr ?_, l', by omega, by omega⟩
    simp only [spec_l1Cur_fieldOf.l0]
    refine Ev.congr (fun k => if_pos (by omega)) ?_
    simp only [e1, Option.bind_some]
    rw [wrapS i (by omega)]
    exact Ev.congr (fun k => if_pos (by omega)) e'
theorem fieldOf_ok {l : List Int} (h : Cod l) (s q : Int) (h0 : 0 ≤ s) (h1 : s ≤ 90000000) (w hh : Int) (L : List Int) (hL : L.length ≤ 64) : ∃ w' h' L' s' q', Ev (fun k => spec_l1Cur_fieldOf.f k l s q w hh L) (w', h', L', s', q') ∧ L'.length ≤ 64 ∧ s ≤ s' ∧ s' ≤ s + 2000 := by
  obtain ⟨o, s1, q1, e1, u1, v1⟩ := one_ok h s q h0 (by omega) 16
  have go : ∀ b : Bool, ∃ w' h' L' s' q', Ev (fun k => spec_l1Cur_fieldOf.j0 k b l s1 q1 w hh L) (w', h', L', s', q') ∧ L'.length ≤ 64 ∧ s1 ≤ s' ∧ s' ≤ s1 + 1500 := by
    intro b
    cases b with
    | true =>
      obtain ⟨w', h', L', s', q', e, l1, u2, v2⟩ := anyFieldS_ok h s1 q1 (by omega) (by omega)
      refine ⟨w', h', L', s', q', Ev.unr ?_, l1, by omega, by omega⟩
      simp only [spec_l1Cur_fieldOf.j0]
      refine Ev.congr (fun k => if_pos (by first | rfl | trivial)) ?_
      exact Ev.bind (f := fun k t => _) e (Ev.now _)
    | false =>
      obtain ⟨L', s', q', e, l1, u2, v2⟩ := fieldOf_l0 h w hh L hL w hh L.length 0 [] s1 q1 (by omega) rfl (by omega) (by omega)
      refine ⟨w, hh, L', s', q', Ev.unr ?_, l1, by omega, by omega⟩
      simp only [spec_l1Cur_fieldOf.j0]
      exact Ev.congr (fun k => if_neg (by simp)) e
  cases o with
  | true =>
    obtain ⟨w', h', L', s', q', e', l1, u', v'⟩ := go true
    refine ⟨w', h', L', s', q', ?_, l1, by omega, by omega⟩
    unfold spec_l1Cur_fieldOf.f
    simp only [e1, Option.bind_some]
    exact Ev.congr (fun k => if_pos (by first | rfl | trivial)) e'
  | false =>
    obtain ⟨w', h', L', s', q', e', l1, u', v'⟩ := go (!okM w hh L)
    refine ⟨w', h', L', s', q', ?_, l1, by omega, by omega⟩
    unfold spec_l1Cur_fieldOf.f
    simp only [e1, Option.bind_some]
    refine Ev.congr (fun k => if_neg (by simp)) ?_
    exact Ev.bind (f := fun k t => _) (ev_goodM w hh L) e'
theorem drawAM_ok {l : List Int} (h : Cod l) : ∃ w hh L a fw fh F, Ev (fun k => spec_DrawAreaMaximum.f k l) (w, hh, L, a, fw, fh, F) ∧ L.length ≤ 64 ∧ F.length ≤ 64 := by
  obtain ⟨w, hh, L, s, q, e, hL, u0, v0⟩ := anyMap_ok h
  obtain ⟨a, s1, q1, e1, u1, v1⟩ := area_ok h s q (by omega) (by omega) w hh L hL
  obtain ⟨fw, fh, F, s2, q2, e2, hF, u2, v2⟩ := fieldOf_ok h s1 q1 (by omega) (by omega) w hh L hL
  refine ⟨w, hh, L, a, fw, fh, F, ?_, hL, hF⟩
  unfold spec_DrawAreaMaximum.f
  exact Ev.bind (f := fun k t => _) e (Ev.bind (f := fun k t => _) e1 (Ev.bind (f := fun k t => _) e2 (Ev.now _)))
theorem pick11 {x n m c : Int} (x0 : 0 ≤ x) (x1 : x < n ∨ x = 0) (hn : n ≤ 11 * m + 11) (hm : 0 ≤ m ∧ m ≤ 10) (hc : 0 ≤ c ∧ c ≤ 100) : 0 ≤ Int.tdiv x 11 ∧ Int.tdiv x 11 ≤ m ∧ wrap64 (c + wrap64 (Int.tdiv x 11)) = c + Int.tdiv x 11 := by
  obtain ⟨y, rfl⟩ : ∃ y : Nat, x = (y : Int) := ⟨x.toNat, by omega⟩
  rw [Int.tdiv_eq_ediv_of_nonneg (by omega)]
  refine ⟨by omega, by omega, ?_⟩
  unfold wrap64
  omega
theorem drawAC_ok {l : List Int} (h : Cod l) : ∃ w hh L a fw fh F t, Ev (fun k => spec_DrawAreaCoverage.f k l) (w, hh, L, a, fw, fh, F, t) ∧ L.length ≤ 64 ∧ F.length ≤ 64 := by
  obtain ⟨w, hh, L, s, q, e, hL, u0, v0⟩ := anyMap_ok h
  obtain ⟨a, s1, q1, e1, u1, v1⟩ := area_ok h s q (by omega) (by omega) w hh L hL
  obtain ⟨fw, fh, F, s2, q2, e2, hF, u2, v2⟩ := fieldOf_ok h s1 q1 (by omega) (by omega) w hh L hL
  obtain ⟨x, s3, q3, e3, x0, x1, u3, v3⟩ := pick_ok h s2 q2 (by omega) (by omega) 24
  obtain ⟨t0, t1, tw⟩ := pick11 (m := 2) (c := 4) x0 x1 (by omega) (by omega) (by omega)
  obtain ⟨y, s4, q4, e4, _, u4, v4⟩ := among_ok h s3 q3 (by omega) (by omega) (([0, 10, 20, 21, 9001, (-9001)] : List Int).take (4 + Int.tdiv x 11).toNat) (by
    rw [List.length_take]
    show 0 < min _ 6
    omega)
  refine ⟨w, hh, L, a, fw, fh, F, y, ?_, hL, hF⟩
  unfold spec_DrawAreaCoverage.f
  refine Ev.bind (f := fun k t => _) e (Ev.bind (f := fun k t => _) e1 (Ev.bind (f := fun k t => _) e2 ?_))
  simp only [Option.bind_some, e3, tw]
  refine Ev.congr (fun k => (if_pos (by omega)).trans (if_pos (by show _ ≤ ((6 : Nat) : Int); omega))) ?_
  simp only [e4, Option.bind_some]
  exact Ev.now _
theorem drawAA_ok {l : List Int} (h : Cod l) : ∃ w hh L fw fh F t p, Ev (fun k => spec_DrawAffectedAreas.f k l) (w, hh, L, fw, fh, F, t, p) ∧ L.length ≤ 64 ∧ F.length ≤ 64 := by
  obtain ⟨w, hh, L, s, q, e, hL, u0, v0⟩ := anyMap_ok h
  obtain ⟨fw, fh, F, s2, q2, e2, hF, u2, v2⟩ := fieldOf_ok h s q (by omega) (by omega) w hh L hL
  obtain ⟨x, s3, q3, e3, x0, x1, u3, v3⟩ := pick_ok h s2 q2 (by omega) (by omega) 12
  obtain ⟨t0, t1, tw⟩ := pick11 (m := 1) (c := 4) x0 x1 (by omega) (by omega) (by omega)
  obtain ⟨y, s4, q4, e4, _, u4, v4⟩ := among_ok h s3 q3 (by omega) (by omega) (([0, 10, 20, 21, 9001] : List Int).take (4 + Int.tdiv x 11).toNat) (by
    rw [List.length_take]
    show 0 < min _ 5
    omega)
  obtain ⟨z, s5, q5, e5, z0, z1, u5, v5⟩ := pick_ok h s4 q4 (by omega) (by omega) 24
  obtain ⟨r0, r1, rw_⟩ := pick11 (m := 2) (c := 5) z0 z1 (by omega) (by omega) (by omega)
  obtain ⟨v, s6, q6, e6, _, u6, v6⟩ := among_ok h s5 q5 (by omega) (by omega) (([1, 33, 50, 51, 100, 0, 101] : List Int).take (5 + Int.tdiv z 11).toNat) (by
    rw [List.length_take]
    show 0 < min _ 7
    omega)
  refine ⟨w, hh, L, fw, fh, F, y, v, ?_, hL, hF⟩
  unfold spec_DrawAffectedAreas.f
  refine Ev.bind (f := fun k t => _) e (Ev.bind (f := fun k t => _) e2 ?_)
  simp only [Option.bind_some, e3, tw]
  refine Ev.congr (fun k => (if_pos (by omega)).trans (if_pos (by show _ ≤ ((5 : Nat) : Int); omega))) ?_
  simp only [e4, Option.bind_some, e5, rw_]
  refine Ev.congr (fun k => (if_pos (by omega)).trans (if_pos (by show _ ≤ ((7 : Nat) : Int); omega))) ?_
  simp only [e6, Option.bind_some]
  exact Ev.now _
set_option linter.unusedVariables false
set_option linter.unusedSimpArgs false
def coverageR (w h : Int) (l : List Int) (a : Int) (fw fh : Int) (fl : List Int) (t : Int) : Int × Int × Bool := if (thereB w h l a && (fitsB w h fw fh fl && thrB t)) = true then ((((vals l fl a).filter fun v => decide (t ≤ v)).length : Int), ((vals l fl a).length : Int), true) else (0, 0, false)
theorem ev_specCoverage (w h : Int) (l : List Int) (a : Int) (fw fh : Int) (fl : List Int) (t : Int) : Ev (fun k => spec_AreaCoverage.f k w h l a fw fh fl t) (coverageR w h l a fw fh fl t) := by
  unfold spec_AreaCoverage.f coverageR
  refine Ev.bind (f := fun k t => _) (ev_there w h l a) ?_
  cases ht : thereB w h l a with
  | false => exact Ev.now _
  | true =>
    have ho := there_ok ht
    refine Ev.congr (fun k => if_pos rfl) ?_
    refine Ev.bind (f := fun k t => _) (ev_fits w h l fw fh fl ho) ?_
    cases hf : fitsB w h fw fh fl with
    | false => exact Ev.now _
    | true =>
      refine Ev.congr (fun k => if_pos rfl) ?_
      refine Ev.bind (f := fun k t => _) (Ev.eq_now (r := thrB t) fun k => by unfold spec_l13Threshold.f; rw [l1In_f]; rfl) ?_
      cases thrB t with
      | false => exact Ev.now _
      | true =>
        refine Ev.congr (fun k => if_pos rfl) ?_
        refine Ev.bind (f := fun k t => _) (ev_specCov w h l a fw fh fl t (okM_len ho) (fits_len ho hf).1) ?_
        exact Ev.now _
theorem ev_implCoverage (w h : Int) (l : List Int) (a : Int) (fw fh : Int) (fl : List Int) (t : Int) : Ev (fun k => impl_AreaCoverage.f k w h l a fw fh fl t) (coverageR w h l a fw fh fl t) := by
  unfold impl_AreaCoverage.f coverageR
  have no : Ev (fun k => impl_AreaCoverage.j0 k a t true w h l fw fh fl) (0, 0, false) := Ev.unr (Ev.eq_now fun k => by simp only [impl_AreaCoverage.j0]; rfl)
  refine Ev.bind (f := fun k t => _) (ev_hasOne w h l a) ?_
  cases ht : thereB w h l a with
  | false => exact no
  | true =>
    have ho := there_ok ht
    refine Ev.congr (fun k => if_pos rfl) ?_
    simp only [fitsMap_f, within_f, Option.bind_some]
    cases hf : fitsB w h fw fh fl with
    | false => exact no
    | true =>
      refine Ev.congr (fun k => if_pos rfl) ?_
      rw [show decide (-9000 ≤ t ∧ t ≤ 9000) = thrB t from rfl]
      cases thrB t with
      | false => exact no
      | true =>
        refine Ev.unr ?_
        simp only [impl_AreaCoverage.j0]
        refine Ev.congr (fun k => if_neg (by decide)) ?_
        refine Ev.bind (f := fun k t => _) (ev_areaValues w h l a fw fh fl (okM_len ho) (fits_len ho hf).1) ?_
        refine Ev.bind (f := fun k t => _) (ev_count (vals l fl a) (by have := vals_len l fl a; have := okM_len ho; omega) t) ?_
        exact Ev.now _
def mst (b : Int) (v : List Int) : Int := v.foldl (fun b x => if b > x then b else x) b
theorem mst_ge (v : List Int) : ∀ b, b ≤ mst b v := by
  induction v with
  | nil => intro b; exact Int.le_refl _
  | cons x v ih =>
    intro b
    have := ih (if b > x then b else x)
    show b ≤ mst (if b > x then b else x) v
    by_cases c : b > x
    · rw [if_pos c] at this ⊢; exact this
    · rw [if_neg c] at this ⊢; omega
theorem mst_skip (v : List Int) : ∀ b, -9999 ≤ b → mst b v = mst b (v.filter fun x => !(x == -9999)) := by
  induction v with
  | nil => intro b _; rfl
  | cons x v ih =>
    intro b hb
    rw [List.filter_cons]
    by_cases e : x = -9999
    · rw [show (!(x == -9999)) = false from by simpa using e, if_neg (by decide), ← ih b hb]
      show mst (if b > x then b else x) v = mst b v
      by_cases c : b > x
      · rw [if_pos c]
      · rw [if_neg c, show x = b from by omega]
    · rw [show (!(x == -9999)) = true from by simpa using e, if_pos rfl]
      show mst (if b > x then b else x) v = mst (if b > x then b else x) _
      exact ih _ (by split <;> omega)
theorem maxN_mst (x : Int) (v : List Int) : ∀ j, j ≤ v.length → maxN (x :: v) j = mst x (v.take j) := by
  intro j
  induction j with
  | zero => intro _; rfl
  | succ j ih =>
    intro hj
    show mx (maxN (x :: v) j) ((x :: v).getD (j + 1) 0) = _
    rw [ih (by omega), List.take_succ_eq_append_getElem (by omega), show (x :: v).getD (j + 1) 0 = v.getD j 0 from by simp, getD_lt v 0 j (by omega)]
    unfold mst
    rw [List.foldl_append]
    show mx _ _ = if _ > _ then _ else _
    unfold mx
    generalize List.foldl _ x (List.take j v) = m
    generalize v[j] = y
    by_cases c : m > y
    · rw [if_pos c, if_neg (by omega)]
    · rw [if_neg c]
      by_cases d : m < y
      · rw [if_pos d]
      · rw [if_neg d]; omega
def maxR (v : List Int) : Int × Bool := match v with
  | [] => (0, false)
  | x :: v => (mst x v, true)
def maximumR (w h : Int) (l : List Int) (a : Int) (fw fh : Int) (fl : List Int) : Int × Bool := if (thereB w h l a && fitsB w h fw fh fl) = true then maxR (vals l fl a) else (0, false)
theorem vals_cell {l fl : List Int} {a : Int} (hfl : fl.length = l.length) (hc : ∀ x ∈ fl, cellB x = true) : ∀ x ∈ vals l fl a, -9000 ≤ x ∧ x ≤ 9000 := by
  intro x hx
  unfold vals at hx
  obtain ⟨h1, h2⟩ := List.mem_filter.1 hx
  obtain ⟨i, hi, rfl⟩ := List.mem_map.1 h1
  have hlt := cells_lt hi
  have h3 := hc (fl.getD i 0) (by rw [getD_lt fl 0 i (by omega)]; exact List.getElem_mem _)
  unfold cellB at h3
  simp only [Bool.or_eq_true, decide_eq_true_eq] at h3
  simp at h2
  rcases h3 with h3 | h3
  · exact absurd h3 h2
  · exact h3
theorem ev_specMaximum (w h : Int) (l : List Int) (a : Int) (fw fh : Int) (fl : List Int) : Ev (fun k => spec_AreaMaximum.f k w h l a fw fh fl) (maximumR w h l a fw fh fl) := by
  unfold spec_AreaMaximum.f maximumR
  have no : Ev (fun k => spec_AreaMaximum.j0 k a true w h l fw fh fl) (0, false) := Ev.unr (Ev.eq_now fun k => by simp only [spec_AreaMaximum.j0]; rfl)
  refine Ev.bind (f := fun k t => _) (ev_there w h l a) ?_
  cases ht : thereB w h l a with
  | false => exact no
  | true =>
    have ho := there_ok ht
    have hl := okM_len ho
    refine Ev.congr (fun k => if_pos rfl) ?_
    refine Ev.bind (f := fun k t => _) (ev_fits w h l fw fh fl ho) ?_
    cases hf : fitsB w h fw fh fl with
    | false => exact no
    | true =>
      have hfl := fits_len ho hf
      refine Ev.unr ?_
      simp only [spec_AreaMaximum.j0]
      refine Ev.congr (fun k => if_neg (by decide)) ?_
      have key := ev_fold (fun k (s : Int) i => spec_AreaMaximum.l0 k a s i w h l fw fh fl) l.length (fun (s : Int) i => if (l.getD i 0 == a) = true then (if s > fl.getD i 0 then s else fl.getD i 0) else s) (fun s => if s = -9999 then ((0 : Int), false) else (s, true)) (fun _ _ => True)
        (by
          intro i s r hi _
          refine ⟨trivial, ?_⟩
          by_cases e : l.getD i 0 = a
          · rw [if_pos (beq_iff_eq.2 e)]
            intro he
            refine Ev.congr (fun k => ?_) he
            simp only [spec_AreaMaximum.l0]
            rw [if_pos (by omega), if_pos (by omega), rdI, if_pos e, if_pos (by omega), rdI, show spec_l1Most.f s (fl.getD i 0) = some (if s > fl.getD i 0 then s else fl.getD i 0) from by unfold spec_l1Most.f; split <;> rfl, wrapS i (by omega)]
            rfl
          · rw [if_neg (by simpa using e)]
            intro he
            refine Ev.congr (fun k => ?_) he
            simp only [spec_AreaMaximum.l0]
            rw [if_pos (by omega), if_pos (by omega), rdI, if_neg e, wrapS i (by omega)])
        (by
          intro s _
          refine Ev.eq_now fun k => ?_
          simp only [spec_AreaMaximum.l0]
          rw [if_neg (by omega)]
          split <;> rfl)
        (-9999) trivial
      have e1 : (List.range l.length).foldl (fun (s : Int) i => if (l.getD i 0 == a) = true then (if s > fl.getD i 0 then s else fl.getD i 0) else s) (-9999) = mst (-9999) (vals l fl a) := by
        unfold vals
        rw [← mst_skip _ _ (Int.le_refl _)]
        unfold mst cells
        rw [List.foldl_map, List.foldl_filter]
      rw [e1] at key
      have e2 : (if mst (-9999) (vals l fl a) = -9999 then ((0 : Int), false) else (mst (-9999) (vals l fl a), true)) = maxR (vals l fl a) := by
        have hv := vals_cell (a := a) hfl.1 hfl.2
        cases hvv : vals l fl a with
        | nil => rfl
        | cons x v =>
          have hx := hv x (by rw [hvv]; simp)
          have e3 : mst (-9999) (x :: v) = mst x v := by
            show mst (if -9999 > x then -9999 else x) v = _
            rw [if_neg (by omega)]
          have := mst_ge v x
          rw [e3, if_neg (by omega)]
          rfl
      rw [e2] at key
      exact key
theorem ev_implMaximum (w h : Int) (l : List Int) (a : Int) (fw fh : Int) (fl : List Int) : Ev (fun k => impl_AreaMaximum.f k w h l a fw fh fl) (maximumR w h l a fw fh fl) := by
  unfold impl_AreaMaximum.f maximumR
  have no : Ev (fun k => impl_AreaMaximum.j0 k a true w h l fw fh fl) (0, false) := Ev.unr (Ev.eq_now fun k => by simp only [impl_AreaMaximum.j0]; rfl)
  refine Ev.bind (f := fun k t => _) (ev_hasOne w h l a) ?_
  cases ht : thereB w h l a with
  | false => exact no
  | true =>
    have ho := there_ok ht
    refine Ev.congr (fun k => if_pos rfl) ?_
    simp only [fitsMap_f, Option.bind_some]
    cases hf : fitsB w h fw fh fl with
    | false => exact no
    | true =>
      refine Ev.unr ?_
      simp only [impl_AreaMaximum.j0]
      refine Ev.congr (fun k => if_neg (by decide)) ?_
      refine Ev.bind (f := fun k t => _) (ev_areaValues w h l a fw fh fl (okM_len ho) (fits_len ho hf).1) ?_
      cases hv : vals l fl a with
      | nil => exact Ev.now _
      | cons x v =>
        refine Ev.congr (fun k => if_neg (by simp; omega)) ?_
        refine Ev.bind (f := fun k t => _) (Ev.eq_now (r := mst x v) fun k => ?_) (Ev.now _)
        unfold slices_Max_int_int.f
        rw [if_pos (by simp), show (x :: v).length - 1 = v.length from rfl, maxN_mst x v v.length (Nat.le_refl _), List.take_length]
theorem mem_getD {l : List Int} {x : Int} (h : x ∈ l) : ∃ i, i < l.length ∧ l.getD i 0 = x := by
  obtain ⟨i, hi, e⟩ := List.mem_iff_getElem.1 h
  exact ⟨i, hi, by rw [getD_lt l 0 i hi]; exact e⟩
theorem getD_memF {l : List Int} {i : Nat} (h : i < l.length) : l.getD i 0 ∈ l := by
  rw [getD_lt l 0 i h]
  exact List.getElem_mem h
theorem ev_rIA (l : List Int) (hl : l.length ≤ 1048576) : Ev (fun k => laws_rInts.f k l l) true := by
  unfold laws_rInts.f
  refine Ev.congr (fun k => if_pos rfl) ?_
  have key := ev_fold (fun k (_ : Unit) i => laws_rInts.l0 k l l i) l.length (fun s _ => s) (fun _ => true) (fun _ _ => True)
    (by
      intro i s r hi hs
      refine ⟨trivial, fun he => Ev.congr (fun k => ?_) he⟩
      simp only [laws_rInts.l0]
      rw [if_pos (by omega), if_pos (by omega), if_pos (by omega), if_pos trivial, wrapS i (by omega)])
    (by
      intro s hs
      refine Ev.eq_now fun k => ?_
      simp only [laws_rInts.l0]
      rw [if_neg (by omega)])
    () trivial
  exact key
theorem ev_rHasA (l : List Int) (hl : l.length ≤ 1048576) (x : Int) : Ev (fun k => laws_rHas.f k l x) (decide (x ∈ l)) := by
  unfold laws_rHas.f
  have key := ev_allN (fun k i => laws_rHas.l0 k l x i) l.length (fun i => !(l.getD i 0 == x)) false true
    (by
      intro i r hi hp he
      refine Ev.congr (fun k => ?_) he
      simp only [laws_rHas.l0]
      have hne : ¬ l.getD i 0 = x := by simpa using hp
      rw [if_pos (by omega), if_pos (by omega), rdI, if_neg hne, wrapS i (by omega)])
    (by
      intro i hi hp
      refine Ev.eq_now fun k => ?_
      simp only [laws_rHas.l0]
      have he : l.getD i 0 = x := by simpa using hp
      rw [if_pos (by omega), if_pos (by omega), rdI, if_pos he])
    (Ev.eq_now fun k => by
      simp only [laws_rHas.l0]
      rw [if_neg (by omega)])
  have e : (if (∀ i, i < l.length → (!(l.getD i 0 == x)) = true) then false else true) = decide (x ∈ l) := by
    by_cases c : x ∈ l
    · rw [decide_eq_true c, if_neg]
      intro hall
      obtain ⟨i, hi, e⟩ := mem_getD c
      have := hall i hi
      rw [e] at this
      simp at this
    · rw [decide_eq_false c, if_pos]
      intro i hi
      have : l.getD i 0 ≠ x := fun e => c (e ▸ getD_memF hi)
      simpa using this
  rw [e] at key
  exact key
theorem affUp_mem (l fl : List Int) (t p x : Int) : ∀ n, x ∈ affUp l fl t p n ↔ (1 ≤ x ∧ x ≤ n ∧ hitB l fl t p x = true)
  | 0 => by
    unfold affUp
    constructor
    · intro h; cases h
    · rintro ⟨h1, h2, _⟩; exfalso; have : x ≤ 0 := h2; omega
  | n + 1 => by
    have ih := affUp_mem l fl t p x n
    unfold affUp
    by_cases c : hitB l fl t p ((n : Int) + 1) = true
    · rw [if_pos c, List.mem_append, List.mem_singleton, ih]
      constructor
      · rintro (⟨h1, h2, h3⟩ | rfl)
        · exact ⟨h1, by omega, h3⟩
        · exact ⟨by omega, by omega, c⟩
      · rintro ⟨h1, h2, h3⟩
        by_cases e : x = (n : Int) + 1
        · exact .inr e
        · exact .inl ⟨h1, by omega, h3⟩
    · rw [if_neg c, ih]
      constructor
      · rintro ⟨h1, h2, h3⟩
        exact ⟨h1, by omega, h3⟩
      · rintro ⟨h1, h2, h3⟩
        by_cases e : x = (n : Int) + 1
        · subst e; exact absurd h3 c
        · exact ⟨h1, by omega, h3⟩
theorem mst_mem (v : List Int) : ∀ b, mst b v = b ∨ mst b v ∈ v := by
  induction v with
  | nil => intro b; exact .inl rfl
  | cons x v ih =>
    intro b
    have e : mst b (x :: v) = mst (if b > x then b else x) v := rfl
    rw [e]
    rcases ih (if b > x then b else x) with h | h
    · rw [h]
      by_cases c : b > x
      · rw [if_pos c]; exact .inl rfl
      · rw [if_neg c]; exact .inr (List.mem_cons_self ..)
    · exact .inr (List.mem_cons_of_mem _ h)
theorem cov_max {w h : Int} {L : List Int} {a fw fh : Int} {F : List Int} (o : (maximumR w h L a fw fh F).2 = true) : (coverageR w h L a fw fh F (maximumR w h L a fw fh F).1).2.2 = true ∧ 1 ≤ (coverageR w h L a fw fh F (maximumR w h L a fw fh F).1).1 ∧ (coverageR w h L a fw fh F (maximumR w h L a fw fh F).1).1 ≤ (coverageR w h L a fw fh F (maximumR w h L a fw fh F).1).2.1 := by
  by_cases c : (thereB w h L a && fitsB w h fw fh F) = true
  · have e : maximumR w h L a fw fh F = maxR (vals L F a) := if_pos c
    rw [e] at o ⊢
    rw [Bool.and_eq_true] at c
    have hf := fits_len (there_ok c.1) c.2
    have hcell := vals_cell (a := a) hf.1 hf.2
    generalize hv : vals L F a = v at o hcell
    cases v with
    | nil => cases o
    | cons x v =>
      have hm : (maxR (x :: v)).1 = mst x v := rfl
      rw [hm]
      have hin : mst x v ∈ x :: v := by
        rcases mst_mem v x with h | h
        · rw [h]; exact List.mem_cons_self ..
        · exact List.mem_cons_of_mem _ h
      have hb := hcell _ hin
      have e2 : coverageR w h L a fw fh F (mst x v) = ((((vals L F a).filter fun q => decide (mst x v ≤ q)).length : Int), ((vals L F a).length : Int), true) := if_pos (by
        rw [c.1, c.2, Bool.true_and, Bool.true_and]
        exact decide_eq_true hb)
      rw [e2, hv]
      refine ⟨rfl, ?_, ?_⟩
      · have : 0 < ((x :: v).filter fun q => decide (mst x v ≤ q)).length := List.length_pos_of_mem (List.mem_filter.2 ⟨hin, decide_eq_true (Int.le_refl _)⟩)
        show (1 : Int) ≤ (((x :: v).filter fun q => decide (mst x v ≤ q)).length : Int)
        omega
      · have := List.length_filter_le (fun q => decide (mst x v ≤ q)) (x :: v)
        show (((x :: v).filter fun q => decide (mst x v ≤ q)).length : Int) ≤ (((x :: v).length : Nat) : Int)
        omega
  · have e : maximumR w h L a fw fh F = (0, false) := if_neg c
    rw [e] at o
    cases o
theorem cov_end {l : List Int} (hc : Cod l) (w h : Int) (L : List Int) (a fw fh : Int) (F : List Int) (t : Int)
    (e : Ev (fun k => spec_DrawAreaCoverage.f k l) (w, h, L, a, fw, fh, F, t)) : Ev (fun k => (spec_DrawAreaCoverage.f k l).bind fun bt562 => ((impl_AreaCoverage.f k bt562.1 bt562.2.1 bt562.2.2.1 bt562.2.2.2.1 bt562.2.2.2.2.1 bt562.2.2.2.2.2.1 bt562.2.2.2.2.2.2.1 bt562.2.2.2.2.2.2.2).bind fun bt576 => ((spec_AreaCoverage.f k bt562.1 bt562.2.1 bt562.2.2.1 bt562.2.2.2.1 bt562.2.2.2.2.1 bt562.2.2.2.2.2.1 bt562.2.2.2.2.2.2.1 bt562.2.2.2.2.2.2.2).bind fun bt579 => (if bt576.1 = bt579.1 then (if bt576.2.1 = bt579.2.1 then (some (bt576.2.2 == bt579.2.2)) else (none)) else (none))))) true := by
  refine Ev.bind (f := fun k t => _) e ?_
  refine Ev.bind (f := fun k t => _) (ev_implCoverage w h L a fw fh F t) ?_
  refine Ev.bind (f := fun k t => _) (ev_specCoverage w h L a fw fh F t) ?_
  exact Ev.congr (fun k => (if_pos rfl).trans (if_pos rfl)) (Ev.eq_now fun k => by rw [beq_self_eq_true])
theorem aff_j4 {l : List Int} (hc : Cod l) : Ev (fun k => laws_FnAffected.j4 k l false) true := by
  obtain ⟨w, h, L, a, fw, fh, F, t, e, _, _⟩ := drawAC_ok hc
  refine Ev.unr ?_
  simp only [laws_FnAffected.j4]
  exact Ev.congr (fun k => if_neg (by decide)) (cov_end hc w h L a fw fh F t e)
theorem aff_j3 {l : List Int} (hc : Cod l) (w h : Int) (L : List Int) (a fw fh : Int) (F : List Int) : Ev (fun k => laws_FnAffected.j3 k l a (maximumR w h L a fw fh F).1 (maximumR w h L a fw fh F).2 false w h L fw fh F) true := by
  refine Ev.unr ?_
  simp only [laws_FnAffected.j3]
  refine Ev.congr (fun k => if_neg (by decide)) ?_
  by_cases o : (maximumR w h L a fw fh F).2 = true
  · refine Ev.congr (fun k => if_pos o) ?_
    refine Ev.bind (f := fun k t => _) (ev_implCoverage w h L a fw fh F _) ?_
    obtain ⟨c1, c2, c3⟩ : (coverageR w h L a fw fh F (maximumR w h L a fw fh F).1).2.2 = true ∧ 1 ≤ (coverageR w h L a fw fh F (maximumR w h L a fw fh F).1).1 ∧ (coverageR w h L a fw fh F (maximumR w h L a fw fh F).1).1 ≤ (coverageR w h L a fw fh F (maximumR w h L a fw fh F).1).2.1 := cov_max o
    refine Ev.congr (fun k => (if_pos c1).trans (if_neg (by omega))) ?_
    rw [decide_eq_false (by omega)]
    exact aff_j4 hc
  · obtain ⟨w2, h2, L2, a2, fw2, fh2, F2, t2, e2, _, _⟩ := drawAC_ok hc
    exact Ev.congr (fun k => if_neg o) (cov_end hc w2 h2 L2 a2 fw2 fh2 F2 t2 e2)
theorem aff_fin {l : List Int} (hc : Cod l) (t p : Int) (A : List Int) (ok : Bool) (T : List Int) (fine : Bool) (i : Int) (w h : Int) (L : List Int) (fw fh : Int) (F : List Int) : Ev (fun k => laws_FnAffected.j2 k l t p A ok T fine i false w h L fw fh F) true := by
  obtain ⟨w2, h2, L2, a2, fw2, fh2, F2, e2, _, _⟩ := drawAM_ok hc
  refine Ev.unr ?_
  simp only [laws_FnAffected.j2]
  refine Ev.congr (fun k => if_neg (by decide)) ?_
  refine Ev.bind (f := fun k t => _) e2 ?_
  refine Ev.bind (f := fun k t => _) (ev_implMaximum w2 h2 L2 a2 fw2 fh2 F2) ?_
  refine Ev.bind (f := fun k t => _) (ev_specMaximum w2 h2 L2 a2 fw2 fh2 F2) ?_
  refine Ev.congr (fun k => if_pos rfl) ?_
  simp only [bne_self_eq_false]
  exact aff_j3 hc w2 h2 L2 a2 fw2 fh2 F2
theorem aff_l0 {l : List Int} (hc : Cod l) (t p w h : Int) (L : List Int) (hL : L.length ≤ 64) (fw fh : Int) (F : List Int) : ∀ (d i : Nat), i + d = (areasR w h L).1.length → Ev (fun k => laws_FnAffected.l0 k l t p (affectedR w h L fw fh F t p).1 (affectedR w h L fw fh F t p).2 (areasR w h L).1 (areasR w h L).2 (i : Int) w h L fw fh F) true := by
  intro d
  induction d with
  | zero =>
    intro i hi
    refine Ev.unr ?_
    simp only [laws_FnAffected.l0]
    exact Ev.congr (fun k => if_neg (by omega)) (aff_fin hc ..)
  | succ d ih =>
    intro i hi
    have hil : i < (areasR w h L).1.length := by omega
    have hle := areasR_len w h L
    refine Ev.unr ?_
    simp only [laws_FnAffected.l0]
    refine Ev.congr (fun k => if_pos (by omega)) ?_
    by_cases o : (okM w h L && (fitsB w h fw fh F && (thrB t && percB p))) = true
    · have eA : affectedR w h L fw fh F t p = (affUp L F t p 9, true) := if_pos o
      rw [Bool.and_eq_true, Bool.and_eq_true, Bool.and_eq_true] at o
      obtain ⟨o1, o2, o3, o4⟩ := o
      have eT : areasR w h L = (areasUp L 9, true) := if_pos o1
      have ihh := ih (i + 1) (by omega)
      rw [eA, eT] at ihh ⊢
      rw [eT] at hil
      dsimp only at ihh hil ⊢
      have hx : (areasUp L 9).getD i 0 ∈ areasUp L 9 := getD_memF hil
      generalize hxv : (areasUp L 9).getD i 0 = x at hx
      have hm := (areasUp_mem L x 9).1 hx
      have ht : thereB w h L x = true := by unfold thereB; rw [o1, decide_eq_true (show 0 < x by omega), decide_eq_true hm.2.2]; rfl
      have eC : coverageR w h L x fw fh F t = (hiN L F t x, alN L F x, true) := if_pos (by rw [ht, o2, o3]; rfl)
      have hp := of_decide_eq_true o4
      have hal := alN_le hL F x
      have hhi := hiN_le L F t x
      have hmul := mul_le64 (p := p) hp hal
      have hcv := ev_implCoverage w h L x fw fh F t
      rw [eC] at hcv
      have hh := ev_rHasA (affUp L F t p 9) (by have := affUp_len L F t p 9; omega) x
      have hmem : decide (x ∈ affUp L F t p 9) = hitB L F t p x := by
        rw [Bool.eq_iff_iff, decide_eq_true_eq, affUp_mem]
        exact ⟨fun q => q.2.2, fun q => ⟨hm.1, hm.2.1, q⟩⟩
      rw [hmem] at hh
      refine Ev.unr ?_
      simp only [laws_FnAffected.j2]
      refine Ev.congr (fun k => (if_pos (by first | rfl | trivial)).trans ((if_pos (by omega)).trans (if_pos (by omega)))) ?_
      rw [rdI, hxv, wrapS i (by omega)]
      refine Ev.bind (f := fun k t => _) hcv ?_
      refine Ev.congr (fun k => (if_pos (by first | rfl | trivial)).trans (if_pos (by first | rfl | trivial))) ?_
      refine Ev.bind (f := fun k t => _) hh ?_
      have hw1 : wrap64 (100 * hiN L F t x) = 100 * hiN L F t x := by unfold wrap64; omega
      have hw2 : wrap64 (p * alN L F x) = p * alN L F x := by
        generalize p * alN L F x = z at hmul
        unfold wrap64; omega
      by_cases c : hiN L F t x > 0
      · refine Ev.congr (fun k => (if_pos c).trans (if_neg ?_)) ihh
        unfold hitB
        dsimp only
        rw [hw1, hw2, decide_eq_true (show 0 < hiN L F t x from c), Bool.true_and]
        simp
      · refine Ev.congr (fun k => (if_neg c).trans (if_neg ?_)) ihh
        unfold hitB
        rw [decide_eq_false (show ¬ 0 < hiN L F t x from c), Bool.false_and]
        decide
    · have eA : affectedR w h L fw fh F t p = ([], false) := if_neg o
      rw [eA]
      exact aff_fin hc ..
end Go.Proofs.Ytfaihkhdbapjmaa.Q
namespace Go.Proofs.Ytfaihkhdbapjmaa.Pure
open Go.RowKit Go.Proofs.YtfaihkhdbapjmaaW.PrintWords Go.Proofs.Ytfaihkhdbapjmaa.Tells Go.Proofs.Ytfaihkhdbapjmaa.Q Go.Proofs.Ytfaihkhdbapjmaa.Gen
theorem FnAffected : ∀ (l0 : List Int), l0.length ≤ maxLen → (∀ x ∈ l0, (0 ≤ x ∧ x ≤ 255)) → ∃ k, laws_FnAffected.f k l0 = some true := by
  intro l hl hb
  refine Ev.rounds ?_
  unfold laws_FnAffected.f laws_rBig.f
  simp only [Option.bind_some, decide_eq_true_eq]
  by_cases hbig : (l.length : Int) > 65536
  · exact Ev.congr (fun k => if_pos hbig) (Ev.now _)
  · refine Ev.congr (fun k => if_neg hbig) ?_
    have hc : Cod l := ⟨by omega, hb⟩
    obtain ⟨w, h, L, fw, fh, F, t, p, e, hL, hF⟩ := drawAA_ok hc
    refine Ev.bind (f := fun k t => _) e ?_
    refine Ev.bind (f := fun k t => _) (ev_implAffected w h L fw fh F t p) ?_
    refine Ev.bind (f := fun k t => _) (ev_specAffected w h L fw fh F t p) ?_
    refine Ev.congr (fun k => if_neg (by simp)) ?_
    refine Ev.bind (f := fun k t => _) (ev_rIA (affectedR w h L fw fh F t p).1 (by have := affectedR_len w h L fw fh F t p; omega)) ?_
    refine Ev.unr ?_
    simp only [laws_FnAffected.j0]
    refine Ev.congr (fun k => if_neg (by decide)) ?_
    refine Ev.bind (f := fun k t => _) (ev_implAreas w h L) ?_
    exact aff_l0 hc t p w h L hL fw fh F (areasR w h L).1.length 0 (by omega)
end Go.Proofs.Ytfaihkhdbapjmaa.Pure
