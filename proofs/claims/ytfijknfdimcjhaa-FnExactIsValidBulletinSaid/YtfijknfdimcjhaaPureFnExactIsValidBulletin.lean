/- The two programs agree on which bulletins are valid: for every bulletin. -/
import Derived.Test.YtfijknfdimcjhaaQf5
import Derived.Test.YtfijknfdimcjhaaLaW
namespace Go.Proofs.Ytfijknfdimcjhaa.Q
open Go.RowKit Go.Proofs.YtfijknfdimcjhaaW.PrintWords Go.Proofs.Ytfijknfdimcjhaa.Gen
set_option linter.unusedVariables false
set_option linter.unusedSimpArgs false
def bullB (n h : Int) (l : List S25) : Bool := decide (1 ≤ n ∧ n ≤ 999) && (decide (0 ≤ h ∧ h ≤ 240) && consB l)
theorem ev_l17Good (n h : Int) (l : List S25) : Ev (fun k => spec_l17Good.f k n h l) (bullB n h l) := by
  unfold spec_l17Good.f bullB
  simp only [l1In_f, Option.bind_some, decide_eq_true_eq]
  by_cases h1 : 1 ≤ n ∧ n ≤ 999
  · by_cases h2 : 0 ≤ h ∧ h ≤ 240
    · simp only [h1, h2, and_self, if_true, decide_true, Bool.true_and]
      exact Ev.bind (f := fun k t => _) (ev_l14List l) (Ev.now _)
    · simp only [h1, h2, and_self, if_true, if_false, decide_true, decide_false, Bool.true_and, Bool.false_and]
      exact Ev.now _
  · simp only [h1, if_false, decide_false, Bool.false_and]
    exact Ev.now _
theorem ev_specBull (n h : Int) (l : List S25) : Ev (fun k => spec_IsValidBulletin.f k n h l) (bullB n h l) := by
  unfold spec_IsValidBulletin.f
  exact Ev.bind (f := fun k t => _) (ev_l17Good n h l) (Ev.now _)
theorem ev_implBull (n h : Int) (l : List S25) (hl : l.length ≤ 4611686018427387904) : Ev (fun k => impl_IsValidBulletin.f k n h l) (bullB n h l) := by
  unfold impl_IsValidBulletin.f bullB
  simp only [within_f, Option.bind_some, decide_eq_true_eq]
  by_cases h1 : 1 ≤ n ∧ n ≤ 999
  · by_cases h2 : 0 ≤ h ∧ h ≤ 240
    · simp only [h1, h2, and_self, if_true, decide_true, Bool.true_and]
      exact Ev.bind (f := fun k t => _) (ev_IsConsistent l hl) (Ev.now _)
    · simp only [h1, h2, and_self, if_true, if_false, decide_true, decide_false, Bool.true_and, Bool.false_and]
      exact Ev.now _
  · simp only [h1, if_false, decide_false, Bool.false_and]
    exact Ev.now _
theorem ev_toB (n h : Int) (l : List S23) (hl : l.length ≤ 1048576) : Ev (fun k => laws_toBulletin.f k n h l) (n, h, wconv l) := by
  unfold laws_toBulletin.f
  exact Ev.bind (f := fun k t => _) (ev_toW l hl) (Ev.now _)
theorem ev_eqB (n h : Int) (l : List S25) (hl : l.length ≤ 4611686018427387904) : Ev (fun k => laws_eqBulletin.f k n h l n h l) true := by
  unfold laws_eqBulletin.f
  simp only [if_true]
  exact Ev.bind (f := fun k t => _) (ev_eqW l hl) (Ev.now _)
end Go.Proofs.Ytfijknfdimcjhaa.Q
namespace Go.Proofs.Ytfijknfdimcjhaa.Pure
open Go.RowKit Go.Proofs.YtfijknfdimcjhaaW.PrintWords Go.Proofs.Ytfijknfdimcjhaa.Tells Go.Proofs.Ytfijknfdimcjhaa.Q Go.Proofs.Ytfijknfdimcjhaa.Gen
theorem FnExactIsValidBulletin : ∀ (x0 : S36), G36 x0 → ∃ k, laws_FnExactIsValidBulletin.f k x0.f0 x0.f1 x0.f2 = some true := by
  rintro ⟨n, h, l⟩ ⟨_, _, hl, _⟩
  refine Ev.rounds ?_
  unfold laws_FnExactIsValidBulletin.f laws_szBulletin.f
  dsimp only at hl ⊢
  simp only [szW_f l 1048576 (by omega) hl, Option.bind_some]
  by_cases hb : (l.length : Int) ≤ 1048576
  · simp only [if_pos hb]
    rw [if_neg (by omega)]
    simp only [Option.bind_some]
    refine Ev.congr (fun k => if_neg (by omega)) ?_
    have hc := ev_toB n h l (by omega)
    have hw : (wconv l).length ≤ 4611686018427387904 := by rw [wconv_length]; omega
    refine Ev.bind (f := fun k t => _) hc ?_
    refine Ev.bind (f := fun k t => _) (ev_specBull _ _ _) ?_
    refine Ev.bind (f := fun k t => _) hc ?_
    refine Ev.bind (f := fun k t => _) (ev_implBull _ _ _ hw) ?_
    refine Ev.congr (fun k => if_neg (by simp)) ?_
    refine Ev.bind (f := fun k t => _) hc ?_
    exact Ev.bind (f := fun k t => _) (ev_eqB _ _ _ hw) (Ev.now _)
  · simp only [if_neg hb]
    exact Ev.now _
end Go.Proofs.Ytfijknfdimcjhaa.Pure
