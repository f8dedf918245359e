/- The two programs name the same areas of a map: for every map. -/
import Derived.Test.YtckcfkimbbfejaaQf3
import Derived.Test.YtckcfkimbbfejaaLaArea
import Derived.Test.YtckcfkimbbfejaaLaUp
import Derived.Test.YtckcfkimbbfejaaLaMarksA
namespace Go.Proofs.Ytckcfkimbbfejaa.Q
open Go.RowKit Go.Proofs.YtckcfkimbbfejaaW.PrintWords Go.Proofs.Ytckcfkimbbfejaa.Gen
set_option linter.unusedVariables false
set_option linter.unusedSimpArgs false
def areasR (w h : Int) (l : List Int) : List Int × Bool := if okM w h l = true then (areasUp l 9, true) else ([], false)
theorem areasR_len (w h : Int) (l : List Int) : (areasR w h l).1.length ≤ 9 := by
  unfold areasR
  split
  · exact areasUp_len l 9
  · exact Nat.zero_le _
theorem ev_specAreas (w h : Int) (l : List Int) : Ev (fun k => spec_AreasOf.f k w h l) (areasR w h l) := by
  unfold spec_AreasOf.f areasR
  refine Ev.bind (f := fun k t => _) (Ev.now _) ?_
  refine Ev.bind (f := fun k t => _) (ev_goodM w h l) ?_
  cases ho : okM w h l with
  | false => exact Ev.now _
  | true =>
    refine Ev.congr (fun k => if_pos rfl) ?_
    rw [if_pos rfl]
    have key : ∀ d i, i + d = 9 → Ev (fun k => spec_AreasOf.l0 k (areasUp l i) ((i : Int) + 1) w h l) (areasUp l 9, true) := by
      intro d
      induction d with
      | zero =>
        intro i hi
        obtain rfl : i = 9 := by omega
        refine Ev.unr (Ev.eq_now fun k => ?_)
        simp only [spec_AreasOf.l0]
        rw [if_neg (by omega)]
      | succ d ih =>
        intro i hi
        have h1 := ih (i + 1) (by omega)
        refine Ev.unr ?_
        simp only [spec_AreasOf.l0]
        refine Ev.congr (fun k => if_pos (by omega)) ?_
        refine Ev.bind (f := fun k t => _) (ev_has l (by have := okM_len ho; omega) ((i : Int) + 1)) ?_
        rw [show wrap64 ((i : Int) + 1 + 1) = ((i + 1 : Nat) : Int) + 1 from by unfold wrap64; omega]
        by_cases c : (i : Int) + 1 ∈ l
        · have e : areasUp l (i + 1) = areasUp l i ++ [(i : Int) + 1] := if_pos c
          rw [e] at h1
          refine Ev.congr (fun k => (if_pos (decide_eq_true c)).trans (if_pos (by have := areasUp_len l i; omega))) h1
        · have e : areasUp l (i + 1) = areasUp l i := if_neg c
          rw [e] at h1
          exact Ev.congr (fun k => if_neg (by simpa using c)) h1
    exact key 9 0 (by omega)
theorem ev_implAreas (w h : Int) (l : List Int) : Ev (fun k => impl_AreasOf.f k w h l) (areasR w h l) := by
  unfold impl_AreasOf.f areasR
  refine Ev.bind (f := fun k t => _) (ev_validM w h l) ?_
  cases ho : okM w h l with
  | false => exact Ev.now _
  | true =>
    unfold okM at ho
    rw [Bool.and_eq_true] at ho
    have hs := (shapeB_iff w h l.length).1 ho.1
    have hm := side_mul hs.1 hs.2.1
    have h9 : ∀ x ∈ l, 0 ≤ x ∧ x ≤ 9 := of_decide_eq_true ho.2
    refine Ev.congr (fun k => (if_pos rfl).trans (if_pos ⟨by omega, by omega⟩)) ?_
    rw [sorted_up l h9]
    exact Ev.now _
end Go.Proofs.Ytckcfkimbbfejaa.Q
set_option linter.unusedVariables false
set_option linter.unusedSimpArgs false
namespace Go.Proofs.Ytckcfkimbbfejaa.Pure
open Go.RowKit Go.Proofs.YtckcfkimbbfejaaW.PrintWords Go.Proofs.Ytckcfkimbbfejaa.Tells Go.Proofs.Ytckcfkimbbfejaa.Q Go.Proofs.Ytckcfkimbbfejaa.Gen
theorem FnExactAreasOf : ∀ (x0 : S24), G24 x0 → ∃ k, laws_FnExactAreasOf.f k x0.f0 x0.f1 x0.f2 = some true := by
  rintro ⟨w, h, l⟩ ⟨_, _, hl, _⟩
  dsimp only at hl ⊢
  refine Ev.rounds ?_
  unfold laws_FnExactAreasOf.f
  simp only [szA_f w h l 1048576 (by omega) hl, Option.bind_some]
  by_cases hb : (l.length : Int) ≤ 1048576
  · simp only [if_pos hb]
    refine Ev.congr (fun k => if_neg (by omega)) ?_
    have hcA := ev_toA w h l (by omega)
    have eqA := ev_eqA w h l (by omega)
    have hsp := ev_specAreas w h l
    have him := ev_implAreas w h l
    have hv := areasR_len w h l
    generalize areasR w h l = v at hsp him hv
    repeat first
      | exact Ev.now _
      | (with_reducible refine Ev.bind (f := fun k t => _) hcA ?_)
      | (with_reducible refine Ev.bind (f := fun k t => _) hsp ?_)
      | (with_reducible refine Ev.bind (f := fun k t => _) him ?_)
      | (with_reducible refine Ev.bind (f := fun k t => _) eqA ?_)
      | (with_reducible refine Ev.bind (f := fun k t => _) (ev_eqI v.1 (by omega)) ?_)
      | (with_reducible refine Ev.bind (f := fun k t => _) (ev_markA w h l (by omega)) ?_)
      | (with_reducible refine Ev.bind (f := fun k t => _) (ev_markI v.1 (by omega)) ?_)
      | (with_reducible refine Ev.bind (f := fun k t => _) (ev_heldI v.1.length (by omega)) ?_)
      | refine Ev.congr (fun k => if_pos (by first | rfl | trivial)) ?_
      | refine Ev.congr (fun k => if_neg (by first | omega | simp)) ?_
      | simp only [bne_self_eq_false, Bool.false_eq_true, if_false]
      | (refine Ev.unr ?_; simp only [laws_FnExactAreasOf.j0])
      | (refine Ev.unr ?_; simp only [laws_FnExactAreasOf.j1])
      | (refine Ev.unr ?_; simp only [laws_FnExactAreasOf.j2])
  · simp only [if_neg hb]
    exact Ev.now _
end Go.Proofs.Ytckcfkimbbfejaa.Pure
