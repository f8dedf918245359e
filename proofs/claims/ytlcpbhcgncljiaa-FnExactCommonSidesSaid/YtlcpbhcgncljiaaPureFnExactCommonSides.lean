/- The two programs count the same common sides of two areas: for every map and areas. -/
import Derived.Test.YtlcpbhcgncljiaaQf5
import Derived.Test.YtlcpbhcgncljiaaLaBorder
namespace Go.Proofs.Ytlcpbhcgncljiaa.Q
open Go.RowKit Go.Proofs.YtlcpbhcgncljiaaW.PrintWords Go.Proofs.Ytlcpbhcgncljiaa.Gen
set_option linter.unusedVariables false
set_option linter.unusedSimpArgs false
def commonR (w h : Int) (l : List Int) (a b : Int) : Int × Bool := if (thereB w h l a && thereB w h l b) = true then (if a = b then (0, false) else (common w h l a b, true)) else (0, false)
theorem there_pos {w h : Int} {l : List Int} {a : Int} (ht : thereB w h l a = true) : okM w h l = true ∧ 0 < a := by
  unfold thereB at ht
  simp only [Bool.and_eq_true, decide_eq_true_eq] at ht
  exact ⟨ht.1, ht.2.1⟩
theorem ev_specCommon (w h : Int) (l : List Int) (a b : Int) : Ev (fun k => spec_CommonSides.f k w h l a b) (commonR w h l a b) := by
  unfold spec_CommonSides.f commonR
  refine Ev.bind (f := fun k t => _) (ev_there w h l a) ?_
  cases ht : thereB w h l a with
  | false => exact Ev.now _
  | true =>
    refine Ev.congr (fun k => if_pos rfl) ?_
    refine Ev.bind (f := fun k t => _) (ev_there w h l b) ?_
    cases ht2 : thereB w h l b with
    | false => exact Ev.now _
    | true =>
      refine Ev.congr (fun k => if_pos rfl) ?_
      rw [show (true && true) = true from rfl, if_pos rfl]
      by_cases e : a = b
      · rw [if_pos e]
        exact Ev.congr (fun k => if_pos e) (Ev.now _)
      · rw [if_neg e]
        refine Ev.congr (fun k => if_neg e) ?_
        exact Ev.bind (f := fun k t => _) (ev_bothBorder (there_pos ht).1 a b (there_pos ht).2 (there_pos ht2).2 e).1 (Ev.now _)
theorem ev_implCommon (w h : Int) (l : List Int) (a b : Int) : Ev (fun k => impl_CommonSides.f k w h l a b) (commonR w h l a b) := by
  unfold impl_CommonSides.f commonR
  refine Ev.bind (f := fun k t => _) (ev_hasTwo w h l a b) ?_
  cases ht : thereB w h l a with
  | false => exact Ev.now _
  | true =>
    cases ht2 : thereB w h l b with
    | false => exact Ev.now _
    | true =>
      refine Ev.congr (fun k => if_pos rfl) ?_
      rw [show (true && true) = true from rfl, if_pos rfl]
      by_cases e : a = b
      · rw [if_pos e]
        exact Ev.congr (fun k => if_pos e) (Ev.now _)
      · rw [if_neg e]
        refine Ev.congr (fun k => if_neg e) ?_
        exact Ev.bind (f := fun k t => _) (ev_bothBorder (there_pos ht).1 a b (there_pos ht).2 (there_pos ht2).2 e).2 (Ev.now _)
end Go.Proofs.Ytlcpbhcgncljiaa.Q
namespace Go.Proofs.Ytlcpbhcgncljiaa.Pure
open Go.RowKit Go.Proofs.YtlcpbhcgncljiaaW.PrintWords Go.Proofs.Ytlcpbhcgncljiaa.Tells Go.Proofs.Ytlcpbhcgncljiaa.Q Go.Proofs.Ytlcpbhcgncljiaa.Gen
theorem FnExactCommonSides : ∀ (x0 : S24) (a1 : Int) (a2 : Int), G24 x0 → I64 a1 → I64 a2 → ∃ k, laws_FnExactCommonSides.f k x0.f0 x0.f1 x0.f2 a1 a2 = some true := by
  rintro ⟨w, h, l⟩ a1 a2 ⟨_, _, hl, _⟩ _ _
  dsimp only at hl ⊢
  refine Ev.rounds ?_
  unfold laws_FnExactCommonSides.f
  simp only [szA_f w h l 1048576 (by omega) hl, Option.bind_some]
  by_cases hb : (l.length : Int) ≤ 1048576
  · simp only [if_pos hb]
    refine Ev.congr (fun k => if_neg (by omega)) ?_
    have hcA := ev_toA w h l (by omega)
    have eqA := ev_eqA w h l (by omega)
    have hsp := ev_specCommon w h l a1 a2
    have him := ev_implCommon w h l a1 a2
    generalize commonR w h l a1 a2 = v at hsp him
    repeat first
      | exact Ev.now _
      | (with_reducible refine Ev.bind (f := fun k t => _) hcA ?_)
      | (with_reducible refine Ev.bind (f := fun k t => _) hsp ?_)
      | (with_reducible refine Ev.bind (f := fun k t => _) him ?_)
      | (with_reducible refine Ev.bind (f := fun k t => _) eqA ?_)
      | refine Ev.congr (fun k => if_pos (by first | rfl | trivial)) ?_
      | refine Ev.congr (fun k => if_neg (by first | omega | simp)) ?_
      | (refine Ev.unr ?_; simp only [laws_FnExactCommonSides.j0, bne_self_eq_false, Bool.false_eq_true, if_false])
  · simp only [if_neg hb]
    exact Ev.now _
end Go.Proofs.Ytlcpbhcgncljiaa.Pure
